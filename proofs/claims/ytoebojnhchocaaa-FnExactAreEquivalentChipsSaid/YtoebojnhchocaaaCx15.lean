/- The functions that one law reaches, each as a Lean function, and that Go's call comes to what it says. Condition of each: that the Lean function answers (is not none). -/
import Derived.Test.YtoebojnhchocaaaCx0
import Derived.Test.YtoebojnhchocaaaCx11
import Derived.Test.YtoebojnhchocaaaCx12
import Derived.Test.YtoebojnhchocaaaCx13
import Derived.Test.YtoebojnhchocaaaCx14
namespace Go.Proofs.Ytoebojnhchocaaa.C
open Go.RowKit Go.Proofs.bI.en Go.Proofs.bI.je Go.Proofs.bI.jC
attribute [local go_sem] max2_int min2_int max_two min_two max_three min_three max_four min_four   -- for this text's walks alone
set_option linter.unusedVariables false
set_option linter.unusedSimpArgs false
/-! ### F224: function 224 -/
def wg.f (a0:Int) (a1:Int):Option (Int):=if a0 < 0 then (if a1=0 then (none) else (some (wrap64 (-(wrap64 (Int.tdiv (wrap64 ((wrap64 ((wrap64 (-a0))+a1)) - 1)) a1)))))) else (if a1=0 then (none) else (some (wrap64 (Int.tdiv a0 a1))))
set_option maxHeartbeats 8000000 in
set_option maxRecDepth 100000 in
theorem wg.calls (a0 : Int) (a1 : Int) (r : Int) (w : World) (h : wg.f a0 a1 = some r) :
  Calls Try.prog 224 #[.int .i64 a0,.int .i64 a1] w fun e w'=>e=.returned (.int .i64 r)∧bP w w':=by
 have H:(if a0 < 0 then (if a1=0 then (none) else (some (wrap64 (-(wrap64 (Int.tdiv (wrap64 ((wrap64 ((wrap64 (-a0))+a1)) - 1)) a1)))))) else (if a1=0 then (none) else (some (wrap64 (Int.tdiv a0 a1)))))=some r:=h
 clear h
 by_cases c3:a0 < 0
 case neg =>
  rw [if_neg c3] at H
  have iE:decide (a0 < 0)=false:=decide_eq_false c3
  clear c3
  by_cases c5:a1=0
  case neg =>
   rw [if_neg c5] at H
   have iW:(a1 == 0)=false:=beq_eq_false_iff_ne.mpr c5
   have alO:(a1 != 0)=true:=bne_iff_ne.mpr c5
   obtain rfl:=Option.some.inj H
   go_enter Try.func224,Try.ntmps224
   go_wp2
   go_ret
   exact ⟨by first|rfl|(simp;done)|(simp [*];done),by repeat (first|exact bP.refl _|apply bP.step)⟩
  rw [if_pos c5] at H
  exact absurd H (by simp)
 rw [if_pos c3] at H
 have iE:=decide_eq_true c3
 clear c3
 by_cases c4:a1=0
 case neg =>
  rw [if_neg c4] at H
  have eA:(a1 == 0)=false:=beq_eq_false_iff_ne.mpr c4
  have mB:(a1 != 0)=true:=bne_iff_ne.mpr c4
  obtain rfl:=Option.some.inj H
  go_enter Try.func224,Try.ntmps224
  go_wp2
  go_ret
  exact ⟨by first|rfl|(simp;done)|(simp [*];done),by repeat (first|exact bP.refl _|apply bP.step)⟩
 rw [if_pos c4] at H
 exact absurd H (by simp)
-- NOT PRINTED: function 239 (slices_overlaps_int64)
/-! ### F250: function 250 -/
def iT.l0 : Nat → List Int → Int → Int → Option (List Int)
 | 0,_,_,_=>none
 | k+1,x0,x2,x3=>if x2 < x3 then (if 0≤x3 then (if x3 < (x0.length:Int) then (if 0≤x2 then (if x2 < (x0.length:Int) then (iT.l0 k ((x0.set (x2:Int).toNat (rd x0 x3)).set (x3:Int).toNat (rd x0 x2)) (wrap64 (x2+1)) (wrap64 (x3 - 1))) else (none)) else (none)) else (none)) else (none)) else (some x0)
def iT.f (k:Nat) (l0:List Int):Option (List Int):=iT.l0 k l0 0 (wrap64 ((l0.length:Int) - 1))
theorem iT.b8 : ∀ k, (∀ y0 y1 y2, aj (iT.l0 k y0 y1 y2) (iT.l0 (k + 1) y0 y1 y2))
 | 0=>fun _ _ _ r h=>by simp [iT.l0] at h
 | k+1=>by
  have akk:=iT.b8 k
  ·intro y0 y1 y2
   unfold iT.l0
   repeat' first
    | (with_reducible first|exact akk _ _ _|exact aj.refl _|exact aj.none _|refine aj.ite ?_ ?_|refine aj.bind ?_ (fun _=>?_))
    | exact akk _ _ _|exact aj.none _|refine aj.ite ?_ ?_|refine aj.bind ?_ (fun _=>?_)
theorem iT.mono:∀ a0 k,aj (iT.f k a0) (iT.f (k+1) a0):=by
 intro a0 k
 have akk:=iT.b8 k
 unfold iT.f
 repeat' first
  | (with_reducible first|exact akk _ _ _|exact aj.refl _|exact aj.none _|refine aj.ite ?_ ?_|refine aj.bind ?_ (fun _=>?_))
  | exact akk _ _ _|exact aj.none _|refine aj.ite ?_ ?_|refine aj.bind ?_ (fun _=>?_)
def iT.T3:Bool × List (List Nat × List Nat):=(true,[([],[]),([],[]),([],[]),([],[]),([],[]),([],[]),([4,5],[4,5]),([6],[6]),([],[]),([],[]),([8,9],[8,9]),([10],[10]),([0,1,0,1,4,5,6,7,11],[0,1]),([12,7,0,1,4,5,6,7,11],[7,12]),([2,3,0,1,2,3,4,5,6,7,8,9,10,11,12,13],[2,3]),([14,11,13,0,1,2,3,4,5,6,7,8,9,10,11,12,13],[11,14])])
def iT.B3:List Nat:=[0,0,0,0,0,0,48,112,0,0,768,1792,4083,8179,16383,32767]
theorem iT.aek:gF .any (opsOf Try.f250 3)=iT.T3:=by kernel_rfl
theorem iT.V0:akZ iT.T3.2 iT.B3=true:=by kernel_rfl
set_option maxHeartbeats 8000000 in
set_option maxRecDepth 100000 in
theorem iT.calls (k : Nat) (alD : Nat → Prop) (Gg : Value) (l0 : List Int) (r : List Int) (w0 w : World) (hB : Below w0.heap.size w0 w) (ake : Kd.R (Kd.int .i64) 2 w w0.heap.size alD Gg l0) (h : iT.f k l0 = some r) :
  Calls Try.prog 250 #[Gg] w fun e w'=>e=.returned (.tuple #[])∧Kd.R (Kd.int .i64) 2 w' w0.heap.size (fun k_=>(alD k_∨w.heap.size≤k_)) Gg r∧Below w0.heap.size w0 w'∧Kept w w' (fun k_=>alD k_):=by
 have Mx:=k0 (show Kd.R (Kd.int .i64) 2 w w0.heap.size (fun k_=>(alD k_∨w.heap.size≤k_)) Gg l0 from Kd.bG ake (fun k_ hk=>(.inl hk)))
 have HK:=k0 (Kept.refl w (fun k_=>alD k_))
 have HW0:=k0 hB.size
 have HB:=k0 hB
 clear hB
 have H:(iT.l0 k l0 0 (wrap64 ((l0.length:Int) - 1)))=some r:=h
 clear h
 have H':=k0 H
 clear H
 obtain ⟨S7,Xg,XY⟩:=Kd.eK Mx.out
 subst XY
 go_enter Try.func250,Try.ntmps250
 go_wp2
 go_loopg [2,3] k (fun kq v2 v3 w'=>∃ (pQ:List Int) (l7:Int) (bD:Int),v2=.int .i64 l7∧v3=.int .i64 bD∧au (iT.l0 kq pQ l7 bD=some r)∧au (kq≤k)∧au (Kd.R (Kd.int .i64) 2 w' w0.heap.size (fun k_=>(alD k_∨w.heap.size≤k_)) (.slice S7 l0.length Xg) pQ)∧au (Kept w w' (fun k_=>alD k_))∧au (Below w0.heap.size w0 w'))
 case atStart=>exact ⟨(l0),(0),(wrap64 ((l0.length:Int) - 1)),rs,rs,H',⟨Nat.le_refl _⟩,⟨aR (Mx.out)⟩,⟨by repeat (first|(with_reducible first|exact HK.out|apply Kept.alloc|apply Kept.drewN|apply Kept.drew)|exact HK.out)⟩,⟨bl⟩⟩
 case round =>
  clear H'
  obtain ⟨pQ,l7,bD,rfl,rfl,HA,akl,qG,HK,HB⟩:=hrel
  have yM:=(Kd.bu qG.out).1
  rw [yM] at qG
  (try simp only [yM])
  cases gk with
  | zero=>exact absurd HA.out (by simp [iT.l0])
  | succ k1 =>
   have H:=HA.out
   clear HA
   simp only [iT.l0] at H
   by_cases c3:l7 < bD
   case neg =>
    rw [if_neg c3] at H
    have iE:decide (l7 < bD)=false:=decide_eq_false c3
    clear c3
    obtain rfl:=Option.some.inj H
    go_wp2
    first|go_end0|((try simp only [Exit.inBlock,Exit.then]);refine bodyPost_ret (results_none rfl _ _ _) rfl ?_)
    exact ⟨by first|rfl|(simp [bq,bt]<;>rfl)|(simp [*,bq,bt]<;>rfl),(by first|exact (aR qG.out)|(simp only [yM];exact (aR qG.out))),bl,by repeat (first|(with_reducible first|exact HK.out|apply Kept.alloc|apply Kept.drewN|apply Kept.drew)|exact HK.out)⟩
   rw [if_pos c3] at H
   have iE:=decide_eq_true c3
   clear c3
   replace H:=iS H;obtain ⟨c4,H⟩:=H
   have eA:=decide_eq_true c4
   clear c4
   replace H:=iS H;obtain ⟨c5,H⟩:=H
   have iW:=decide_eq_true c5
   (try simp only [yM] at iW)
   clear c5
   replace H:=iS H;obtain ⟨c6,H⟩:=H
   have akJ:=decide_eq_true c6
   clear c6
   replace H:=iS H;obtain ⟨c7,H⟩:=H
   have gK:=decide_eq_true c7
   (try simp only [yM] at gK)
   clear c7
   obtain ⟨SH,C6⟩:∃ y_:List Int,y_=(pQ.set (l7:Int).toNat (rd pQ bD)):=⟨_,rfl⟩
   replace H:(iT.l0 k1 (SH.set (bD:Int).toNat (rd pQ l7)) (wrap64 (l7+1)) (wrap64 (bD - 1)))=some r:=by first|(rw [C6];with_reducible exact H)|(have ay:=(Option.bind_some _ _).symm.trans H;rw [C6];with_reducible exact ay)|(have ay:=(Option.bind_some _ _).symm.trans H;with_reducible exact ay)|with_reducible exact H|(rw [C6];exact H)|exact H
   have UZ:=k0 C6
   clear C6
   obtain ⟨nV,jt⟩:∃ y_:List Int,y_=(SH.set (bD:Int).toNat (rd pQ l7)):=⟨_,rfl⟩
   replace H:(iT.l0 k1 nV (wrap64 (l7+1)) (wrap64 (bD - 1)))=some r:=by first|(rw [jt];with_reducible exact H)|(have ay:=(Option.bind_some _ _).symm.trans H;rw [jt];with_reducible exact ay)|(have ay:=(Option.bind_some _ _).symm.trans H;with_reducible exact ay)|with_reducible exact H|(rw [jt];exact H)|exact H
   have tU:=k0 jt
   clear jt
   have H':=k0 H
   clear H
   try go_wp2
   replace qG:=k0 (Kd.bn qG.out);replace HK:=k0 (Kept.drew HK.out);replace HB:=k0 (cP HB.out)
   have eU:0≤(bD:Int):=oD
   have eV:bD < (pQ.length:Int):=oD
   obtain ⟨qM,e101,pH⟩:=Kd.bH (Kd.bu qG.out).2.2 bD eU eV
   cases e101
   replace eU:=eq_true eU
   replace eV:=eq_true eV
   have dr:0≤(l7:Int):=oD
   have dw:l7 < (pQ.length:Int):=oD
   obtain ⟨oa,e102,akN⟩:=Kd.bH (Kd.bu qG.out).2.2 l7 dr dw
   obtain rfl:qM=oa:=(by injection e102)
   replace dr:=eq_true dr
   replace dw:=eq_true dw
   have p8:0≤(l7:Int):=oD
   have q8:(l7:Int) < ((pQ.length:Int):Int):=oD
   obtain ⟨EY,co8,N7,Oz,YW,cl8,Mu⟩:=Kd.akT qG.out (by omega)
   (first|cases N7|(injection N7 with bf dn dm;(first|subst bf|(injection bf with bf;subst bf));subst dm;clear dn))
   have Mb:=k0 Oz
   have TY:=k0 Mu
   clear Oz YW Mu
   have Mw:=k0 (show (alD EY∨w.heap.size≤EY) from (qG.out.1 _ rfl))
   (first|simp only [add_plain] at pH|skip)
   (first|simp only [add_plain] at akN|skip)
   obtain ⟨abG,aaG⟩:=Kd.jD 0 qG.out (l7:Int) p8 q8
   replace p8:=eq_true p8
   replace q8:=eq_true q8
   have r8:=Kd.al2 qG.out (l7:Int) (rd pQ bD)
   rw [← UZ.out] at r8
   have G_:=k0 r8
   clear r8
   have p9:0≤(bD:Int):=oD
   have q9:(bD:Int) < ((pQ.length:Int):Int):=oD
   obtain ⟨alU,JB⟩:=Kd.jD 0 G_.out (bD:Int) p9 q9
   replace p9:=eq_true p9
   replace q9:=eq_true q9
   have wo:=Kd.al2 G_.out (bD:Int) (rd pQ l7)
   rw [← tU.out] at wo
   have MC:=k0 wo
   clear wo
   refine lJ (n:=16) (S:=fun w'=>w'.cell? ⟨EY,(bD).toNat,none⟩=some (.int .i64 (rd pQ bD))∧w'.cell? ⟨EY,(l7).toNat,none⟩=some (.int .i64 (rd pQ l7))) (ds:=[13,15]) (ba 16 0) (by kernel_rfl) rfl rfl ⟨pH,akN⟩ (fun hHeld=>?_);refine qu iT.aek iT.V0 (fun aA dh=>?_)
   generalize wr.drew=fF at qG HK HB TY G_ MC aaG JB pH akN abG alU hHeld ⊢
   refine pu 0 (some 14) (ba 16 1) aA (h:=?_)
   refine pu 1 (some 15) (ba 16 3) aA (h:=?_)
   refine pu 2 (some 16) (ba 16 7) aA (h:=?_)
   refine pu 3 (some 17) (ba 16 15) aA (h:=?_)
   refine pu 4 (some 18) (ba 16 31) aA (h:=?_)
   refine pu 5 (some 19) (ba 16 63) aA (h:=?_)
   refine pu 6 (some 20) (ba 16 127) aA (h:=?_)
   refine pu 8 (some 22) (ba 16 383) aA (h:=?_)
   refine pu 9 (some 23) (ba 16 895) aA (h:=?_)
   refine pu 10 (some 24) (ba 16 1919) aA (h:=?_)
   refine ta 7 (some 21) (ba 16 2047) aA dh hHeld (hy:=Or.inl ⟨by rfl,by rintro w' ⟨s0,s1⟩;go_simp;with_reducible rfl⟩) (h:=?_)
   refine ta 11 (some 25) (ba 16 4095) aA dh hHeld (hy:=Or.inl ⟨by rfl,by rintro w' ⟨s0,s1⟩;go_simp;with_reducible rfl⟩) (h:=?_)
   refine pu 12 (some 26) (ba 16 8191) aA (h:=?_)
   refine rU (i:=13) (N:=none) (ba 16 16383) rfl rfl (kF aA.out (by kernel_rfl)) (by decide) (fun K hK=>?_)
   refine pP (w1:=?_) (by rfl) rfl ?_ ?_
   rotate_left;· go_simp;rfl
   refine hK.out _ _ ?_
   clear hK K
   refine pu 14 (some 27) (ba 16 32767) aA (h:=?_)
   refine rU (i:=15) (N:=none) (ba 16 65535) rfl rfl (kF aA.out (by kernel_rfl)) (by decide) (fun K hK=>?_)
   refine pP (w1:=?_) (by rfl) rfl ?_ ?_
   rotate_left;· go_simp;rfl
   refine hK.out _ _ ?_
   clear hK K
   refine lC (p_ aA.out (by kernel_rfl)) ?_
   try go_wp2
   (try simp only [← yM])
   go_roundg k1
   case measure=>have:=akl.out;omega
   case rel=>exact ⟨(nV),(wrap64 (l7+1)),(wrap64 (bD - 1)),rs,rs,H',⟨by have:=akl.out;omega⟩,⟨by (try simp only [yM]);(with_reducible repeat (first|apply Kd.bN|apply Kd.bQ|apply Kd.bn));exact MC.out⟩,⟨by repeat (first|(with_reducible first|exact HK.out|apply Kept.alloc|apply Kept.drewN|apply Kept.drew|refine Kept.setCell ?_ Mw.out _|refine Kept.setCell ?_ Mw.out _)|exact HK.out)⟩,⟨by repeat (first|(with_reducible first|exact HB.out|apply dA|apply akz|apply cP|refine dM ?_ Mb.out|refine dM ?_ Mb.out)|exact HB.out)⟩⟩
-- NOT PRINTED: function 245 (slices_rotateLeft_int64)
-- NOT PRINTED: function 240 (slices_rotateRight_int64)
-- NOT PRINTED: function 225 (slices_Insert_int64_int64)
/-! ### F183: function 183 -/
/- of F222.f -/
def qq (l:List Int) (i y:Int):List Int:=l.take i.toNat ++ y :: l.drop i.toNat
set_option maxHeartbeats 8000000 in
set_option maxRecDepth 100000 in
theorem abZ (b n c i vb : Nat) (cs : List Value) (y : Value) (w : World) (hi : i < n) (hroom : n + 1 ≤ c) (hc63 : c ≤ 9223372036854775807) (hvb : vb ≠ b)
  (hcl:cs.length=n)
  (hcs:∀ j v,cs[j]?=some v→w.cell? ⟨b,j,none⟩=some v) (hsp:∀ j,j < n+1→(w.cell? ⟨b,j,none⟩).isSome=true) (hfz:∀ j,j < n+1→w.frozen? ⟨b,j,none⟩=false)
  (hvs:w.cell? ⟨vb,0,none⟩=some y) (h1c:∀ v ∈ cs,v.oneCell'=true) (h1v:y.oneCell'=true)
  (tA tB:TypeId) (kA kB:Nat) (hsa:w.shape? vb=some (tA,kA)) (hsb:w.shape? b=some (tB,kB)) (hkB:kB ≠ 0) (hfa:w.frozen? ⟨vb,0,none⟩=false) (hfe:w.frozen? ⟨vb,kA,none⟩=false) :
  Calls Try.prog 225 #[.slice (some ⟨b,0,none⟩) n c,.int .i64 i,.slice (some ⟨vb,0,none⟩) 1 1] w fun e w' =>
   e=.returned (.slice (some ⟨b,0,none⟩) (n+1) c)∧w'=(w.drew.setCells b (i+1) (cs.drop i)).setCells b i [y]:=by
 have alW:¬ ((i:Int)=(n:Int)):=by omega
 have hsz:(Try.prog.info? 2).map (·.size)=some 1:=by
  obtain ⟨i0,rS,_,hs,_⟩:=info_parts lH
  rw [rS];simp [hs]
 have am8:∀ w,(Go.sizeOf 2).run Try.prog w=.ok 1 w:=fun w=>by first|rfl|(go_simp;done)
 have hov:∀ lb cb,(callFunc 239 #[.slice (some ⟨vb,0,none⟩) 1 1,.slice (some ⟨b,i+1,none⟩) lb cb]).run Try.prog w=.ok (.value (.bool false)) w:=fun lb cb=>by
  rw [run_callFunc_extern Try.func239 (by kernel_rfl) (by kernel_rfl) (by kernel_rfl) (e := Extern.SlicesOverlaps.overlaps #[28, 28] #[4]) (by kernel_rfl),
   Lib.run_overlaps_apart w 28 4 2 Try.underlying28 1 am8 ⟨vb,0,none⟩ ⟨b,i+1,none⟩ 1 1 lb cb hvb tA tB kA kB hsa hsb hkB hfa hfe]
  rfl
 have hdl:(cs.drop i).length=n - i:=by rw [List.length_drop,hcl]
 have mixed:Try.prog.follows Departure.mixedOrders=true:=by kernel_rfl
 have hw1:IntKind.i64.wrap ((i:Int)+1)=(i:Int)+1:=by rw [IntKind.wrap_i64];omega
 have hw2:IntKind.i64.wrap ((n:Int)+1)=(n:Int)+1:=by rw [IntKind.wrap_i64];omega
 have hgt:decide ((c:Int) < (n:Int)+1)=false:=decide_eq_false (by omega)
 have hb1:(0:Int)≤(i:Int)+1:=by omega
 have hin:i≤n:=by omega
 have htn:((i:Int)+1).toNat=i+1:=by omega
 have htm:((n:Int)+1).toNat=n+1:=by omega
 have hb2:¬ (c=i+1):=by omega
 have hb3:(i:Int)≤(n:Int)+1:=by omega
 have hb4:¬ (c=i):=by omega
 have ZE:(i:Int)+1≤(n:Int)+1:=by omega
 have hb6:(n:Int)+1≤(c:Int):=by omega
 have hb7:(0:Int)≤(n:Int)+1:=by omega
 have hb8:i+1≤n+1:=by omega
 have Pv:∀ ty dc sc,(Builtin.copy_ #[28,28] ty #[.slice (some ⟨b,i+1,none⟩) (n - i) dc,.slice (some ⟨b,i,none⟩) (n+1 - i) sc]).run Try.prog w.drew=.ok (goInt (cs.drop i).length) (w.drew.setCells b (i+1) (cs.drop i)):=fun ty dc sc =>
  run_copy_cells w.drew _ _ ty 2 b (i + 1) (n - i) dc ⟨b, i, none⟩ (n + 1 - i) sc (cs.drop i) Try.underlying28 hsz (by rw [hdl]; simp only [Nat.min_def]; split <;> omega)
   (fun j v hj=>by rw [Addr.add_lit];exact hcs (i+j) v (by rwa [List.getElem?_drop] at hj))
   (fun j hj=>hsp _ (by rw [hdl] at hj;omega)) (fun j hj=>hfz _ (by rw [hdl] at hj;omega)) (fun v hv=>h1c v (List.mem_of_mem_drop hv))
 obtain ⟨W1,ot⟩:∃ W1,W1=w.drew.setCells b (i+1) (cs.drop i):=⟨_,rfl⟩
 have abq:∀ k,k < n+1→(W1.cell? ⟨b,k,none⟩).isSome=true:=fun k hk=>by
  rw [ot]
  exact isSome_setCells b (cs.drop i) (i+1) w.drew (fun j hj=>hsp _ (by rw [hdl] at hj;omega)) k (hsp k hk)
 have Jm:∀ (W:World),(∀ x,W.cell? x=W1.cell? x)→(∀ x,W.frozen? x=W1.frozen? x)→∀ ty dc,(Builtin.copy_ #[28,28] ty #[.slice (some ⟨b,i,none⟩) (n+1 - i) dc,.slice (some ⟨vb,0,none⟩) 1 1]).run Try.prog W=.ok (goInt 1) (W.setCells b i [y]):=fun W wU amq ty dc =>
  run_copy_cells W _ _ ty 2 b i (n + 1 - i) dc ⟨vb, 0, none⟩ 1 1 [y] Try.underlying28 hsz (by show 1 = _; simp only [Nat.min_def]; split <;> omega)
   (fun j v hj=>by
    obtain rfl:j=0:=by have:=(List.getElem?_eq_some_iff.1 hj).1;simpa using this
    simp at hj
    rw [Addr.add_lit,wU,ot,World.cell?_setCells_out b _ _ _ _ (fun h _=>absurd h hvb),← hj]
    exact hvs)
   (fun j hj=>by rw [wU];exact abq _ (by simp at hj;omega)) (fun j hj=>by rw [amq,ot,World.frozen?_setCells];exact hfz _ (by simp at hj;omega)) (fun v hv=>by simp at hv;rw [hv];exact h1v)
 rw [← ot] at Pv
 go_enter Try.func225,Try.ntmps225
 go_wp2_with (simp only [hov])
 go_region_law_o (refine step_copy_runI rfl _ _ 28 28 rfl _ _ (by simp [Act.eval,Act.put]) (by simp [Act.eval,Act.put]) (Pv _ _ _) ?_)
 go_wp2_with (first|(simp only [Jm _ (fun _=>rfl) (fun _=>rfl)];done)|(rw [Jm _ (fun _=>rfl) (fun _=>rfl)])|(at_builtin;refine wpList_copy_runI _ rfl _ _ 28 28 rfl _ _ rfl rfl (Jm _ (fun _=>rfl) (fun _=>rfl) _ _) ?_))
 go_ret
 first|exact ⟨rfl,rfl⟩|exact ⟨rfl,by rw [ot]⟩
set_option maxHeartbeats 8000000 in
set_option maxRecDepth 100000 in
theorem abY (b n c i vb : Nat) (cs : List Value) (y : Value) (w : World) (hi : i < n) (hnc : n ≤ c) (hroom : c < n + 1) (hbig : (n + 1) * 8 ≤ 140737488355328)
  (hcl:cs.length=n) (hcs:∀ j v,cs[j]?=some v→w.cell? ⟨b,j,none⟩=some v) (hvs:w.cell? ⟨vb,0,none⟩=some y) (h1c:∀ v ∈ cs,v.oneCell'=true) (h1v:y.oneCell'=true) :
  Calls Try.prog 225 #[.slice (some ⟨b,0,none⟩) n c,.int .i64 i,.slice (some ⟨vb,0,none⟩) 1 1] w fun e w' =>
   e=.returned (.slice (some ⟨w.heap.size,0,none⟩) (n+1) (grownCap w (n+1) c 2)) ∧
   w'=(((w.alloc (.cells ((cs.take i).toArray ++ Builtin.zeroCells (Value.int .i64 0).cells (n+1 - i) ++ Builtin.zeroCells (Value.int .i64 0).cells (grownCap w (n+1) c 2 - (n+1))) 2)).drew.setCells w.heap.size i [y]).drew).setCells w.heap.size (i+1) (cs.drop i):=by
 obtain ⟨i0,rS,alV,hzs,Q4⟩:=info_parts lH
 have mixed:Try.prog.follows Departure.mixedOrders=true:=by kernel_rfl
 have alW:¬ ((i:Int)=(n:Int)):=by omega
 have hgt:decide ((c:Int) < (n:Int)+1)=true:=decide_eq_true (by omega)
 have hsz:(Try.prog.info? 2).map (·.size)=some 1:=by rw [rS];simp [hzs]
 have hbw:b < w.heap.size:=block_lt_of_cell (hcs 0 _ (List.getElem?_eq_getElem (by omega)))
 have J2:vb < w.heap.size:=block_lt_of_cell hvs
 have hkk:(n:Int)+1 - (i:Int)=((n+1 - i:Nat):Int):=by omega
 have hik:i+(n+1 - i)=n+1:=by omega
 have hold:(Builtin.firstCells i0.size i (.slice (some ⟨b,0,none⟩) i c)).run Try.prog w.drew=.ok (cs.take i).toArray w.drew:=by
  rw [hzs]
  exact run_firstCells_some w.drew 1 i ⟨b,0,none⟩ i c (cs.take i) (by rw [List.length_take];omega) (fun j v hj=>by
   rw [Addr.add_lit,Nat.zero_add]
   rw [List.getElem?_take] at hj
   split at hj
   ·exact hcs j v hj
   ·cases hj)
 have CJ : ∀ ty, (Builtin.append_ #[28, 3] ty #[.slice (some ⟨b, 0, none⟩) i c, .int .i64 ((n : Int) + 1 - (i : Int))]).run Try.prog w =
   .ok (.slice (some ⟨w.heap.size,0,none⟩) (n+1) (grownCap w (n+1) c 2)) (w.drew.alloc (.cells ((cs.take i).toArray ++ Builtin.zeroCells (Value.int .i64 0).cells (n+1 - i) ++ Builtin.zeroCells (Value.int .i64 0).cells (grownCap w (n+1) c 2 - (n+1))) 2)):=fun ty=>by
  have h:=Lib.run_append_grow_zeros w 28 3 ty 2 i0 _ .i64 .i64 Try.underlying28 Try.underlying3 rS alV (some ⟨b,0,none⟩) i c (cs.take i) hold (n+1 - i) (by omega) (by omega) (by omega) (by omega) (by rw [Q4];omega) (by rw [Q4,hik];exact growslice_fits hroom hbig)
  rw [hik] at h
  rw [hkk]
  exact h
 obtain ⟨G,hG⟩:∃ G,G=grownCap w (n+1) c 2:=⟨_,rfl⟩
 obtain ⟨ROW,yo⟩:∃ ROW:Array Value,ROW=(cs.take i).toArray ++ Builtin.zeroCells (Value.int .i64 0).cells (n+1 - i) ++ Builtin.zeroCells (Value.int .i64 0).cells (G - (n+1)):=⟨_,rfl⟩
 rw [← hG] at CJ ⊢
 rw [← yo] at CJ ⊢
 have hRl:n+1≤ROW.size:=by
  rw [yo]
  simp [Builtin.zeroCells,Value.cells]
  omega
 obtain ⟨W1,ot⟩:∃ W1,W1=w.drew.alloc (.cells ROW 2):=⟨_,rfl⟩
 rw [← ot] at CJ
 have hN:∀ j,j < n+1→(W1.cell? ⟨w.heap.size,j,none⟩).isSome=true:=fun j hj=>by
  rw [ot,World.cell?_alloc_at (w:=w.drew) ROW _ w.heap.size j rfl,Array.getElem?_eq_getElem (by omega)];rfl
 have OV:∀ j,W1.frozen? ⟨w.heap.size,j,none⟩=false:=fun j=>by rw [ot];exact World.frozen?_alloc_at (w:=w.drew) ROW _ w.heap.size j rfl
 have Zx:∀ j v,w.cell? ⟨b,j,none⟩=some v→W1.cell? ⟨b,j,none⟩=some v:=fun j v h=>by rw [ot,World.cell?_alloc_past (w:=w.drew) _ b j hbw];exact h
 have Zy:∀ j v,w.cell? ⟨vb,j,none⟩=some v→W1.cell? ⟨vb,j,none⟩=some v:=fun j v h=>by rw [ot,World.cell?_alloc_past (w:=w.drew) _ vb j J2];exact h
 have hdl:(cs.drop i).length=n - i:=by rw [List.length_drop,hcl]
 have Pw:∀ (W:World),(∀ x,W.cell? x=W1.cell? x)→(∀ x,W.frozen? x=W1.frozen? x)→∀ ty dc,(Builtin.copy_ #[28,28] ty #[.slice (some ⟨w.heap.size,i,none⟩) (n+1 - i) dc,.slice (some ⟨vb,0,none⟩) 1 1]).run Try.prog W=.ok (goInt 1) (W.setCells w.heap.size i [y]):=fun W wU amq ty dc =>
  run_copy_cells W _ _ ty 2 w.heap.size i (n + 1 - i) dc ⟨vb, 0, none⟩ 1 1 [y] Try.underlying28 hsz (by show 1 = _; simp only [Nat.min_def]; split <;> omega)
   (fun j v hj=>by
    obtain rfl:j=0:=by have:=(List.getElem?_eq_some_iff.1 hj).1;simpa using this
    simp at hj
    rw [Addr.add_lit,wU,← hj];exact Zy _ _ hvs)
   (fun j hj=>by rw [wU];exact hN _ (by simp at hj;omega)) (fun j hj=>by rw [amq];exact OV _) (fun v hv=>by simp at hv;rw [hv];exact h1v)
 have hGn:n+1≤G:=by rw [hG];exact grownCap_ge w _ _ _
 have hG63:G≤9223372036854775807:=by
  have:=grownCap_le_maxLen w (n+1) c 2 (by unfold maxLen;omega)
  rw [← hG] at this
  unfold maxLen at this
  omega
 have hGi:¬ (G=i):=by omega
 have agI:¬ (G=i+1):=by omega
 have hci:¬ (c=i):=by omega
 have ZF:b ≠ w.heap.size:=by omega
 have Z8:∀ (W:World),(∀ x,W.cell? x=(W1.setCells w.heap.size i [y]).cell? x)→(∀ x,W.frozen? x=(W1.setCells w.heap.size i [y]).frozen? x)→∀ ty dc sc,(Builtin.copy_ #[28,28] ty #[.slice (some ⟨w.heap.size,i+1,none⟩) (n - i) dc,.slice (some ⟨b,i,none⟩) (n - i) sc]).run Try.prog W=.ok (goInt (cs.drop i).length) (W.setCells w.heap.size (i+1) (cs.drop i)):=fun W wU amq ty dc sc =>
  run_copy_cells W _ _ ty 2 w.heap.size (i + 1) (n - i) dc ⟨b, i, none⟩ (n - i) sc (cs.drop i) Try.underlying28 hsz (by rw [hdl]; simp only [Nat.min_def]; split <;> omega)
   (fun j v hj=>by
    rw [Addr.add_lit,wU,World.cell?_setCells_out _ _ _ _ _ (fun h _=>absurd h ZF)]
    exact Zx _ v (hcs (i+j) v (by rwa [List.getElem?_drop] at hj)))
   (fun j hj=>by rw [wU];exact isSome_setCells _ [y] i W1 (fun t ht=>hN _ (by simp at ht;omega)) _ (hN _ (by rw [hdl] at hj;omega)))
   (fun j hj=>by rw [amq,World.frozen?_setCells];exact OV _) (fun v hv=>h1c v (List.mem_of_mem_drop hv))
 subst ot
 have vt:∀ x,((w.alloc (.cells ROW 2)).drew).cell? x=(w.drew.alloc (.cells ROW 2)).cell? x:=fun x=>rfl
 have yl:∀ x,((w.alloc (.cells ROW 2)).drew).frozen? x=(w.drew.alloc (.cells ROW 2)).frozen? x:=fun x=>rfl
 have Y2:∀ x,(((w.alloc (.cells ROW 2)).drew.setCells w.heap.size i [y]).drew).cell? x=((w.drew.alloc (.cells ROW 2)).setCells w.heap.size i [y]).cell? x:=fun x=>rfl
 have Y3:∀ x,(((w.alloc (.cells ROW 2)).drew.setCells w.heap.size i [y]).drew).frozen? x=((w.drew.alloc (.cells ROW 2)).setCells w.heap.size i [y]).frozen? x:=fun x=>rfl
 have hw1:IntKind.i64.wrap ((i:Int)+1)=(i:Int)+1:=by rw [IntKind.wrap_i64];omega
 have hw2:IntKind.i64.wrap ((n:Int)+1)=(n:Int)+1:=by rw [IntKind.wrap_i64];omega
 have hw3:IntKind.i64.wrap ((n:Int)+1 - (i:Int))=(n:Int)+1 - (i:Int):=by rw [IntKind.wrap_i64];omega
 have hb1:(0:Int)≤(i:Int)+1:=by omega
 have hin:i≤n:=by omega
 have hic:i≤c:=by omega
 have htn:((i:Int)+1).toNat=i+1:=by omega
 have hb3:(i:Int)≤(n:Int):=by omega
 have hb4:(i:Int)≤(n:Int)+1:=by omega
 have ZE:(i:Int)+1≤(n:Int)+1:=by omega
 clear hkk hik hold yo hG hRl
 go_enter Try.func225,Try.ntmps225
 go_wp2_with (first
  | (at_builtin;refine Lib.wpList_append_run _ rfl _ _ _ _ rfl _ _ rfl rfl _ _ (CJ _) ?_)
  | (rw [CJ])
  | (rw [Pw _ vt yl])
  | (at_builtin;refine wpList_copy_runI _ rfl _ _ 28 28 rfl _ _ rfl rfl (Pw _ vt yl _ _) ?_))
 go_region_law_o (refine step_copy_runI rfl _ _ 28 28 rfl (.slice (some ⟨w.heap.size,i+1,none⟩) (n - i) (G - (i+1))) (.slice (some ⟨b,i,none⟩) (n - i) (c - i)) (by simp [Act.eval,Act.put]) (by simp [Act.eval,Act.put]) (Z8 _ Y2 Y3 3 (G - (i+1)) (c - i)) ?_)
 go_wp2
 go_ret
 exact ⟨rfl,rfl⟩
theorem amn (g : Nat) : ∀ (vs : List Value) (o : Nat) (w : World), w.grownBy (w.setCells g o vs) (some g)
 | [],_,w=>⟨rfl,rfl,rfl,Nat.le_refl _,fun _ _ _=>rfl⟩
 | v :: r,o,w=>World.grownBy.trans (b:=w.setCell ⟨g,o,none⟩ v) ⟨rfl,rfl,rfl,by simp [World.setCell],fun k _ hk=>Below.heap_setCell w ⟨g,o,none⟩ v k (fun he=>hk (by rw [he]))⟩ (amn g r (o+1) _)
theorem IZ (w:World) (r:Option Nat):w.grownBy w.drew r:=⟨rfl,rfl,rfl,Nat.le_refl _,fun _ _ _=>rfl⟩
theorem EZ (w:World) (o:Obj) (r:Option Nat):w.grownBy (w.alloc o) r:=⟨rfl,rfl,rfl,by unfold World.alloc;simp,fun k hk _=>by unfold World.alloc;simp [Array.getElem?_push,Nat.ne_of_lt hk]⟩
theorem Q7 {W : World} {g k n : Nat} {cur : Array Value} {cs : List Value} {y : Value} (h : W.heap[g]? = some (.cells cur 2 (0, 0))) (hk : k ≤ n) (hcl : cs.length = n) (hs : n + 1 ≤ cur.size) (ht : cur.toList.take k = cs.take k) :
  (∃ c2,((W.setCells g (k+1) (cs.drop k)).setCells g k [y]).heap[g]?=some (.cells c2 2 (0,0))∧c2.size=cur.size∧c2.toList.take (n+1)=cs.take k ++ y :: cs.drop k) ∧
  (∃ c2,((W.setCells g k [y]).drew.setCells g (k+1) (cs.drop k)).heap[g]?=some (.cells c2 2 (0,0))∧c2.size=cur.size∧c2.toList.take (n+1)=cs.take k ++ y :: cs.drop k):=by
 have hd:(cs.drop k).length=n - k:=by rw [List.length_drop,hcl]
 have hlt:(cs.take k).length=k:=by rw [List.length_take];omega
 have hct:(cur.toList.take k).length=k:=by rw [ht];exact hlt
 constructor
 ·obtain ⟨c1, e1, e2, e3⟩ := uA (cs.drop k) (k + 1) W cur h (by rw [hd]; omega)
  obtain ⟨c2,f1,f2,f3⟩:=uA [y] k _ c1 e1 (by simp;omega)
  refine ⟨c2,f1,by omega,?_⟩
  have g1:c1.toList.take k=cs.take k:=by
   rw [e3,List.append_assoc,List.take_append,List.take_take,Nat.min_eq_left (by omega),ht]
   have:(cur.toList.take (k+1)).length=k+1:=by rw [List.length_take,Array.length_toList];omega
   rw [this,show k - (k+1)=0 by omega,List.take_zero,List.append_nil]
  have g2:c1.toList.drop (k+1)=cs.drop k ++ cur.toList.drop (k+1+(n - k)):=by
   have:(cur.toList.take (k+1)).length=k+1:=by rw [List.length_take,Array.length_toList];omega
   rw [e3,List.append_assoc,List.drop_append,List.drop_of_length_le (by omega),this,Nat.sub_self,List.drop_zero,List.nil_append,hd]
  have g3:cs.take k ++ [y] ++ (cs.drop k ++ cur.toList.drop (k+1+(n - k)))=(cs.take k ++ y :: cs.drop k) ++ cur.toList.drop (k+1+(n - k)):=by simp
  rw [f3,g1,List.length_singleton,g2,g3]
  exact List.take_left' (by rw [List.length_append,List.length_cons,hlt,hd];omega)
 ·obtain ⟨c1, e1, e2, e3⟩ := uA [y] k W cur h (by simp; omega)
  have XM:(W.setCells g k [y]).drew.heap[g]?=some (.cells c1 2 (0,0)):=e1
  obtain ⟨c2,f1,f2,f3⟩:=uA (cs.drop k) (k+1) _ c1 XM (by rw [hd];omega)
  refine ⟨c2,f1,by omega,?_⟩
  have g1:c1.toList.take (k+1)=cs.take k ++ [y]:=by
   rw [e3,ht,List.length_singleton,List.take_append,List.take_of_length_le (by simp;omega)]
   rw [List.length_append,hlt,List.length_singleton,Nat.sub_self,List.take_zero,List.append_nil]
  have g3:∀ Z,cs.take k ++ [y] ++ cs.drop k ++ Z=(cs.take k ++ y :: cs.drop k) ++ Z:=fun Z=>by simp
  rw [f3,g1,g3]
  exact List.take_left' (by rw [List.length_append,List.length_cons,hlt,hd];omega)
set_option maxHeartbeats 8000000 in
set_option maxRecDepth 100000 in
theorem abX (y : Int) (l0 : List Int) (i : Int) (W w0 : World) (b : Nat) (ok : Nat → Prop) (V : Value) (hR : Kd.R (Kd.int .i64) 2 W b ok V l0) (hok : ∀ k, W.heap.size ≤ k → ok k) (rS : 0 ≤ i) (hi : i ≤ (l0.length : Int)) (hB : Below b w0 W) (hb : b ≤ W.heap.size) (hL : l0.length < 17592186044416) :
  Calls Try.prog 225 #[V,.int .i64 i,.slice (some ⟨W.heap.size,0,none⟩) 1 1] (W.alloc (.cells #[.int .i64 y] 2)) fun e w'=>∃ v,e=.returned v∧Kd.R (Kd.int .i64) 2 w' b ok v (qq l0 i y)∧Below b w0 w'∧W.grownBy w' V.ownBlock∧(v.ownBlock=V.ownBlock∨∃ k,v.ownBlock=some k∧W.heap.size≤k):=by
 obtain ⟨k,rfl⟩:∃ k:Nat,i=k:=⟨i.toNat,by omega⟩
 have hk:k≤l0.length:=by omega
 have B6:Below b w0 (W.alloc (.cells #[.int .i64 y] 2)):=hB.alloc hb _
 have B7:=EZ W (.cells #[.int .i64 y] 2) V.ownBlock
 have hsize:(W.alloc (.cells #[.int .i64 y] 2)).heap.size=W.heap.size+1:=by unfold World.alloc;exact Array.size_push _
 have hnew:(W.alloc (.cells #[.int .i64 y] 2)).heap[W.heap.size]?=some (.cells #[.int .i64 y] 2 (0,0)):=heap_alloc_new W _
 by_cases hend:k=l0.length
 case neg =>
  have hlt:k < l0.length:=by omega
  obtain ⟨_,⟨_,h0⟩|⟨g,c,cur,rfl,Jb,JM,hnc,rM,hcs,hct⟩⟩:=Kd.Kt hR
  ·omega
  have hgW:g < W.heap.size:=by
   rcases Nat.lt_or_ge g W.heap.size with h|h
   ·exact h
   ·rw [Array.getElem?_eq_none h] at JM;exact absurd JM (by simp)
  have Cu:(W.alloc (.cells #[.int .i64 y] 2)).heap[g]?=some (.cells cur 2 (0,0)):=by
   rw [← JM];exact (EZ W (.cells #[.int .i64 y] 2) none).block g hgW (by simp)
  have hcl:(fl (Value.int .i64) l0).length=l0.length:=by simp [fl]
  rw [Nat.mul_one] at hcs hct
  have hcell:∀ j v,(fl (Value.int .i64) l0)[j]?=some v→(W.alloc (.cells #[.int .i64 y] 2)).cell? ⟨g,j,none⟩=some v:=fun j v hj=>by
   have hj2:j < l0.length:=by have:=(List.getElem?_eq_some_iff.1 hj).1;omega
   rw [av Cu j,← hj,← hct,List.getElem?_take,if_pos hj2,Array.getElem?_toList]
  have hfz:=fun j=>aH Cu j
  have QV:(W.alloc (.cells #[.int .i64 y] 2)).cell? ⟨W.heap.size,0,none⟩=some (.int .i64 y):=by rw [av hnew 0];rfl
  have h1c:∀ v ∈ fl (Value.int .i64) l0,v.oneCell'=true:=fun v hv=>by
   obtain ⟨x,_,rfl⟩:=List.mem_map.1 hv
   rfl
  have QS:∀ c2:Array Value,c2.toList.take (l0.length+1)=(fl (Value.int .i64) l0).take k ++ .int .i64 y :: (fl (Value.int .i64) l0).drop k→c2.toList.take ((qq l0 (k:Int) y).length * 1)=fl (Value.int .i64) (qq l0 (k:Int) y):=fun c2 h=>by
   have e1:(qq l0 (k:Int) y).length=l0.length+1:=by
    unfold qq
    rw [Int.toNat_natCast,List.length_append,List.length_cons,List.length_take,List.length_drop];omega
   rw [e1,Nat.mul_one,h]
   unfold qq fl
   rw [Int.toNat_natCast,List.map_append,List.map_cons,List.map_take,List.map_drop]
  have hil:(qq l0 (k:Int) y).length=l0.length+1:=by
   unfold qq
   rw [Int.toNat_natCast,List.length_append,List.length_cons,List.length_take,List.length_drop];omega
  have hkc:(fl (Value.int .i64) l0).take k=cur.toList.take k:=by rw [← hct,List.take_take,Nat.min_eq_left (by omega)]
  by_cases hroom:l0.length+1≤c
  case neg =>
   have vu:c=l0.length:=by omega
   refine (abY g l0.length c k W.heap.size (fl (Value.int .i64) l0) (.int .i64 y) _ hlt hnc (by omega) (by omega) hcl hcell QV h1c rfl).mono ?_
   rintro e w' ⟨rfl,rfl⟩
   generalize ot:W.alloc (.cells #[.int .i64 y] 2)=W1 at *
   obtain ⟨G,hG⟩:∃ G,G=grownCap W1 (l0.length+1) c 2:=⟨_,rfl⟩
   rw [← hG]
   have hGn:l0.length+1≤G:=by rw [hG];exact grownCap_ge W1 _ _ _
   have Y5:G≤maxLen:=by
    have:=grownCap_le_maxLen W1 (l0.length+1) c 2 (by unfold maxLen;omega)
    rw [← hG] at this
    exact this
   obtain ⟨ROW,yo⟩:∃ ROW:Array Value,ROW=((fl (Value.int .i64) l0).take k).toArray ++ Builtin.zeroCells (Value.int .i64 0).cells (l0.length+1 - k) ++ Builtin.zeroCells (Value.int .i64 0).cells (G - (l0.length+1)):=⟨_,rfl⟩
   rw [← yo]
   have QA:((fl (Value.int .i64) l0).take k).length=k:=by rw [List.length_take];omega
   have hRs:ROW.size=G:=by
    rw [yo]
    simp [Builtin.zeroCells,Value.cells,QA]
    omega
   have ZA:ROW.toList.take k=(fl (Value.int .i64) l0).take k:=by
    rw [yo,Array.toList_append,Array.toList_append,List.append_assoc]
    exact List.take_left' QA
   obtain ⟨_,c2,f1,f2,f3⟩:=Q7 (W:=(W1.alloc (.cells ROW 2)).drew) (g:=W1.heap.size) (k:=k) (n:=l0.length) (cur:=ROW) (cs:=fl (Value.int .i64) l0) (y:=.int .i64 y) (heap_alloc_new W1 _) hk hcl (by omega) ZA
   have hA:∀ (r:Option Nat),W1.grownBy (W1.alloc (.cells ROW 2)) r:=fun r=>EZ W1 _ r
   have hbig:(W1.alloc (.cells ROW 2)).grownBy ((((W1.alloc (.cells ROW 2)).drew.setCells W1.heap.size k [.int .i64 y]).drew).setCells W1.heap.size (k+1) ((fl (Value.int .i64) l0).drop k)) (some W1.heap.size) :=
    World.grownBy.trans (IZ _ _) (World.grownBy.trans (amn _ _ _ _) (World.grownBy.trans (IZ _ _) (amn _ _ _ _)))
   have OH:W.grownBy ((((W1.alloc (.cells ROW 2)).drew.setCells W1.heap.size k [.int .i64 y]).drew).setCells W1.heap.size (k+1) ((fl (Value.int .i64) l0).drop k)) (some g):=by
    have h0:=World.grownBy.trans B7 (hA (some g))
    refine ⟨hbig.os.trans h0.os,hbig.tape.trans h0.tape,hbig.output.trans h0.output,Nat.le_trans h0.size hbig.size,fun q hq hne=>?_⟩
    rw [hbig.block q (by have:=h0.size;omega) (by intro e;injection e with e;omega)]
    exact h0.block q hq hne
   refine ⟨_,rfl,Kd.zR ⟨by simp [fl],.inr ⟨W1.heap.size,G,c2,by rw [hil],by omega,f1,by rw [hil];exact hGn,Y5,by omega,QS c2 f3⟩⟩ (fun k_ jQ=>?_),hB.grown OH hb (fun k_ jQ=>by injection jQ with jQ;omega),OH,.inr ⟨W1.heap.size,rfl,by omega⟩⟩
   refine hok k_ ?_
   have hk2:W1.heap.size=k_:=by simpa [Value.ownBlock] using jQ
   omega
  refine (abZ g l0.length c k W.heap.size (fl (Value.int .i64) l0) (.int .i64 y) _ hlt hroom (by unfold maxLen at rM;omega) (by omega) hcl hcell (fun j hj=>?_) (fun j _=>hfz j) QV h1c rfl 2 2 1 cur.size ?_ ?_ (by omega) (aH hnew 0) (aH hnew 1)).mono ?_
  ·rw [av Cu j,Array.getElem?_eq_getElem (by omega)];rfl
  ·unfold World.shape?;rw [hnew];rfl
  ·unfold World.shape?;rw [Cu]
  ·rintro e w' ⟨rfl, rfl⟩
   obtain ⟨⟨c2,f1,f2,f3⟩,_⟩:=Q7 (W:=(W.alloc (.cells #[.int .i64 y] 2)).drew) (g:=g) (k:=k) (n:=l0.length) (cur:=cur) (cs:=fl (Value.int .i64) l0) (y:=.int .i64 y) Cu hk hcl (by omega) hkc.symm
   have hG:W.grownBy (((W.alloc (.cells #[.int .i64 y] 2)).drew.setCells g (k+1) ((fl (Value.int .i64) l0).drop k)).setCells g k [.int .i64 y]) (some g) :=
    World.grownBy.trans (EZ W _ _) (World.grownBy.trans (IZ _ _) (World.grownBy.trans (amn g _ _ _) (amn g _ _ _)))
   refine ⟨_,rfl,Kd.zR ⟨by simp [fl],.inr ⟨g,c,c2,by rw [hil],Jb,f1,by rw [hil];exact hroom,rM,by omega,QS c2 f3⟩⟩ (fun k_ jQ=>?_),hB.grown hG hb (fun k_ jQ=>by injection jQ with jQ;omega),hG,.inl rfl⟩
   exact hR.1 k_ jQ
 obtain ⟨A,c,rfl⟩:=Kd.eK hR
 have Qk:qq l0 (k:Int) y=l0 ++ [y]:=by
  unfold qq
  rw [Int.toNat_natCast,hend,List.take_length,List.drop_length]
 rw [Qk]
 have hO:=Kd.bN hR (.cells #[.int .i64 y] 2)
 have OP:Kd.R (Kd.int .i64) 2 (W.alloc (.cells #[.int .i64 y] 2)) W.heap.size (fun _=>True) (.slice (some ⟨W.heap.size,0,none⟩) 1 1) [y]:=by
  refine Kd.zR ?_ (fun _ _=>trivial)
  have h2:=World.ownsRow_lit (base:=W.heap.size) (e:=2) (size:=1) W #[Value.int .i64 y] 1 (Nat.le_refl _) (by simp [maxLen]) (by simp)
  simpa [fl] using h2
 have HC:=k0 (Kd.bu OP).2.2
 have HO:=k0 hO
 have kM:=k0 B6
 have Up:=k0 hok
 have am2:=k0 B7
 have HS:=k0 hsize
 have HL:=k0 hL
 have xM:=k0 hb
 have kz:((k:Int) == (l0.length:Int))=true:=by simp [hend]
 have hkk:(k:Int)=(l0.length:Int):=by omega
 clear hR hO OP B6 hB hok B7 hsize hL hnew Qk hb
 subst hend
 go_enter Try.func225,Try.ntmps225
 go_wp2_with (at_builtin;refine Kd.HN (Kd.int .i64) (w0:=w0) b rfl (.tmp 23) (.tmp 24) 28 2 (.int .i64 0) 8 rfl Try.underlying28 lH rfl (by decide) (by omega) (.slice A l0.length c) l0 [y] _ _ _ ok (fun _=>False) rfl rfl HO.out HC.out (fun _ _ h=>h) (fun _ h=>h.elim) (fun k hk=>Up.out k (by have:=HS.out;omega)) kM.out (by have:=HS.out;have:=xM.out;omega) (by have:=HL.out;simp;omega) ?_;intro v105 w5 ho hb hg cy;have Uo:=k0 ho;have T6:=k0 hb;have T':=k0 (World.grownBy.trans am2.out hg);have amZ:=k0 cy;clear ho hb hg cy)
 all_goals go_ret
 all_goals (try (have Jh:c=l0.length:=(by assumption);subst Jh))
 all_goals exact ⟨_,rfl,Uo.out,T6.out,T'.out,amZ.out.imp id (fun ⟨k_,h1,h2⟩=>⟨k_,h1,by have:=HS.out;omega⟩)⟩
mutual
def cm.l0 : Nat → List Int → Int → List (List Int) → List Int → List (List Int) → Int → Int → Int → List (List Int) → Option (List Int)
 | 0,_,_,_,_,_,_,_,_,_=>none
 | k+1,x1,x2,x7,x8,Gk,nT,pT,bR,bJ=>if pT < nT then (if 0≤pT then (if pT < (Gk.length:Int) then (if pT=x2 then (cm.l0 k x1 x2 x7 x8 Gk nT (wrap64 (pT+1)) bR bJ) else ((nW.f (ah Gk pT)).bind fun t112=>(if 0≤x2 then (if x2 < (t112.length:Int) then (if x7.length < 5864062014805 then (if pT < (x1.length:Int) then (if x8.length < 17592186044416 then (cm.l0 k x1 x2 (x7 ++ [(t112.eraseIdx (x2:Int).toNat)]) (x8 ++ [rd x1 pT]) Gk nT (wrap64 (pT+1)) bR bJ) else (none)) else (none)) else (none)) else (none)) else (none)))) else (none)) else (none)) else ((bw.f k x7).bind fun t125=>(cm.l1 k x1 x2 x7 x8 t125 (([]:List Int)) (x7.length:Int) 0 bR bJ))
def cm.l1 : Nat → List Int → Int → List (List Int) → List Int → Int → List Int → Int → Int → Int → List (List Int) → Option (List Int)
 | 0,_,_,_,_,_,_,_,_,_,_=>none
 | k+1,x1,x2,x7,x8,fe,fK,DT,AZ,bR,bJ=>if AZ < DT then (cm.l2 k x1 x2 x7 x8 fe fK AZ (([]:List (List Int))) DT AZ (x7.length:Int) 0 bR bJ) else (if (fK.length < 17592186044416∧0≤x2∧x2≤(fK.length:Int)) then ((cF.f k bR bJ x1 (qq fK x2 0)).bind fun t132=>(some t132)) else (none))
def cm.l2 : Nat → List Int → Int → List (List Int) → List Int → Int → List Int → Int → List (List Int) → Int → Int → Int → Int → Int → List (List Int) → Option (List Int)
 | 0,_,_,_,_,_,_,_,_,_,_,_,_,_,_=>none
 | k+1,x1,x2,x7,x8,fe,fK,gH,ak1,DT,AZ,SG,zx,bR,bJ=>if zx < SG then (if 0≤zx then (if zx < (x7.length:Int) then ((nW.f (ah x7 zx)).bind fun t139=>(if zx < (x8.length:Int) then (if 0≤gH then (if gH < (t139.length:Int) then (if ak1.length < 5864062014805 then (cm.l2 k x1 x2 x7 x8 fe fK gH (ak1 ++ [(t139.set (gH:Int).toNat (rd x8 zx))]) DT AZ SG (wrap64 (zx+1)) bR bJ) else (none)) else (none)) else (none)) else (none))) else (none)) else (none)) else ((bw.f k ak1).bind fun t147=>((wg.f t147 fe).bind fun t148=>(if fK.length < 17592186044416 then (cm.l1 k x1 x2 x7 x8 fe (fK ++ [t148]) DT (wrap64 (AZ+1)) bR bJ) else (none))))
end
def cm.f (k:Nat) (af:Int) (aa:List (List Int)) (l1:List Int) (a2:Int):Option (List Int):=(cC.f k af aa).bind fun t108=>(cm.l0 k l1 a2 (([]:List (List Int))) (([]:List Int)) t108 (t108.length:Int) 0 af aa)
theorem cm.b8 : ∀ k, (∀ y0 y1 y2 y3 y4 y5 y6 y7 y8, aj (cm.l0 k y0 y1 y2 y3 y4 y5 y6 y7 y8) (cm.l0 (k + 1) y0 y1 y2 y3 y4 y5 y6 y7 y8)) ∧ (∀ y0 y1 y2 y3 y4 y5 y6 y7 y8 y9, aj (cm.l1 k y0 y1 y2 y3 y4 y5 y6 y7 y8 y9) (cm.l1 (k + 1) y0 y1 y2 y3 y4 y5 y6 y7 y8 y9)) ∧ (∀ y0 y1 y2 y3 y4 y5 y6 y7 y8 y9 DU SJ SK SN, aj (cm.l2 k y0 y1 y2 y3 y4 y5 y6 y7 y8 y9 DU SJ SK SN) (cm.l2 (k + 1) y0 y1 y2 y3 y4 y5 y6 y7 y8 y9 DU SJ SK SN))
 | 0=>⟨fun _ _ _ _ _ _ _ _ _ r h=>by simp [cm.l0] at h,fun _ _ _ _ _ _ _ _ _ _ r h=>by simp [cm.l1] at h,fun _ _ _ _ _ _ _ _ _ _ _ _ _ _ r h=>by simp [cm.l2] at h⟩
 | k+1=>by
  obtain ⟨akk,ih1,ih2⟩:=cm.b8 k
  refine ⟨?_, ?_, ?_⟩ <;> intros <;> (first | unfold cm.l0 | unfold cm.l1 | unfold cm.l2) <;> repeat' first
   | (with_reducible first|exact akk _ _ _ _ _ _ _ _ _|exact ih1 _ _ _ _ _ _ _ _ _ _|exact ih2 _ _ _ _ _ _ _ _ _ _ _ _ _ _|exact cF.mono _ _ _ _ _|exact cC.mono _ _ _|exact bw.mono _ _|exact aj.refl _|exact aj.none _|refine aj.ite ?_ ?_|refine aj.bind ?_ (fun _=>?_))
   | exact akk _ _ _ _ _ _ _ _ _|exact ih1 _ _ _ _ _ _ _ _ _ _|exact ih2 _ _ _ _ _ _ _ _ _ _ _ _ _ _|exact cF.mono _ _ _ _ _|exact cC.mono _ _ _|exact bw.mono _ _|exact aj.none _|refine aj.ite ?_ ?_|refine aj.bind ?_ (fun _=>?_)
theorem cm.mono:∀ a0 a1 a2 a3 k,aj (cm.f k a0 a1 a2 a3) (cm.f (k+1) a0 a1 a2 a3):=by
 intro a0 a1 a2 a3 k
 obtain ⟨akk,ih1,ih2⟩:=cm.b8 k
 unfold cm.f
 repeat' first
  | (with_reducible first|exact akk _ _ _ _ _ _ _ _ _|exact ih1 _ _ _ _ _ _ _ _ _ _|exact ih2 _ _ _ _ _ _ _ _ _ _ _ _ _ _|exact cF.mono _ _ _ _ _|exact cC.mono _ _ _|exact bw.mono _ _|exact aj.refl _|exact aj.none _|refine aj.ite ?_ ?_|refine aj.bind ?_ (fun _=>?_))
  | exact akk _ _ _ _ _ _ _ _ _|exact ih1 _ _ _ _ _ _ _ _ _ _|exact ih2 _ _ _ _ _ _ _ _ _ _ _ _ _ _|exact cF.mono _ _ _ _ _|exact cC.mono _ _ _|exact bw.mono _ _|exact aj.none _|refine aj.ite ?_ ?_|refine aj.bind ?_ (fun _=>?_)
def cm.Nc:Bool × List (List Nat × List Nat):=(true,[([],[]),([],[]),([],[]),([],[]),([],[]),([2,3,4],[2,3,4]),([0,1,5,5],[0,1,5]),([6,6,0,1,2,3,4,5,6],[6])])
def cm.Tm:List Nat:=[0,0,0,0,0,28,63,127]
theorem cm.aej:gF .any (opsOf Try.f183 23)=cm.Nc:=by kernel_rfl
theorem cm.VZ:akZ cm.Nc.2 cm.Tm=true:=by kernel_rfl
set_option maxHeartbeats 8000000 in
set_option maxRecDepth 100000 in
theorem cm.calls (k : Nat) (af : Int) (aq : Option Addr) (ak : Nat) (aa : List (List Int)) (A1 : Option Addr) (c1 : Nat) (l1 : List Int) (a2 : Int) (r : List Int) (w : World) (akv : Kd.C (Kd.slice 2 (Kd.int .i64)) w aq aa.length aa) (akw : aa.length ≤ ak) (cQ : Kd.C (Kd.int .i64) w A1 l1.length l1) (ef : l1.length ≤ c1) (h : cm.f k af aa l1 a2 = some r) :
  Calls Try.prog 183 #[.agg #[.int .i64 af,.slice aq aa.length ak],.slice A1 l1.length c1,.int .i64 a2] w fun e w'=>∃ dK:Value,e=.returned (dK)∧Kd.R (Kd.int .i64) 2 w' w.heap.size (fun _=>True) dK r∧Below w.heap.size w w':=by
 have j8:=Try.underlying31
 have bU:=k0 akv
 have cG:=k0 akw
 clear akv akw
 have ek:=k0 cQ
 have jZ:=k0 ef
 clear cQ ef
 have HB:=k0 (Below.refl w.heap.size w)
 have H:((cC.f k af aa).bind fun t108=>(cm.l0 k l1 a2 (([]:List (List Int))) (([]:List Int)) t108 (t108.length:Int) 0 af aa))=some r:=h
 clear h
 obtain ⟨eW,eL⟩:∃ y_:List (List Int),y_=(([]:List (List Int))):=⟨_,rfl⟩
 replace H:((cC.f k af aa).bind fun t108=>(cm.l0 k l1 a2 eW (([]:List Int)) t108 (t108.length:Int) 0 af aa))=some r:=by first|(rw [eL];with_reducible exact H)|(have ay:=(Option.bind_some _ _).symm.trans H;rw [eL];with_reducible exact ay)|(have ay:=(Option.bind_some _ _).symm.trans H;with_reducible exact ay)|with_reducible exact H|(rw [eL];exact H)|exact H
 have gA:=k0 eL
 clear eL
 obtain ⟨jg,fy⟩:∃ y_:List Int,y_=(([]:List Int)):=⟨_,rfl⟩
 replace H:((cC.f k af aa).bind fun t108=>(cm.l0 k l1 a2 eW jg t108 (t108.length:Int) 0 af aa))=some r:=by first|(rw [fy];with_reducible exact H)|(have ay:=(Option.bind_some _ _).symm.trans H;rw [fy];with_reducible exact ay)|(have ay:=(Option.bind_some _ _).symm.trans H;with_reducible exact ay)|with_reducible exact H|(rw [fy];exact H)|exact H
 have lN:=k0 fy
 clear fy
 replace H:=Option.bind_eq_some_iff.mp H
 obtain ⟨t108,jA,H⟩:=H
 replace H:(cm.l0 k l1 a2 eW jg t108 (t108.length:Int) 0 af aa)=some r:=H
 have A4:=k0 jA
 clear jA
 have H':=k0 H
 clear H
 go_enter Try.func183,Try.ntmps183
 go_wp2_with (first|((with_reducible refine cj (N:=3) rfl ?_);refine dJ ?hg (N:=3) ?hd (cs:=#[.int .i64 af,.slice aq aa.length ak]) (t:=31) ?hr ?_;(case hd=>rfl);(case hg=>rfl);(case hr=>first|(go_simp;done)|(go_simp;rfl));intro ai hg w5 aK hb;have ag:=k0 (aK);have aks:=k0 ((by rw [hg];exact (aU bl):w.heap.size≤ai));have ej:=aks;replace HB:=k0 (aI bl hb);clear hb aK hg)|((with_reducible refine cj (N:=18) rfl ?_);refine Kd.Bn (Kd.slice 2 (Kd.int .i64)) _ 28 ?hg (N:=18) ?hd (xs:=([]:List (List Int))) (inner:=[]) (ok:=fun _=>True) (cA:=fun _=>True) ?hr ?hp (fun _ hk=>hk) trivial (Below.refl _ _) (Nat.le_refl _) (by simp) ?_;(case hd=>rfl);(case hg=>rfl);(case hr=>first|(go_simp;done)|(go_simp;rfl));(case hp=>exact (bS.none _ _));intro dx w6 CE hb eB eC;clear eB eC;(first|rw [← gA.out] at CE|(simp only [Int.reduceToNat] at CE;rw [← gA.out] at CE));have bh:=k0 (Kd.ak0 CE (aU bl));replace ag:=k0 (akj (g:=ai) (o:=sO af aq aa ak 31) bk hb);replace HB:=k0 (aI bl hb);clear hb CE)|((with_reducible refine cj (N:=19) rfl ?_);refine Kd.o8 (Kd.int .i64) _ 2 ?hg (N:=19) ?hd (xs:=([]:List Int)) (inner:=[]) (ok:=fun _=>True) (cA:=fun _=>True) ?hr ?hp (fun _ hk=>hk) trivial (Below.refl _ _) (Nat.le_refl _) (by simp) ?_;(case hd=>rfl);(case hg=>rfl);(case hr=>first|(go_simp;done)|(go_simp;rfl));(case hp=>exact (bS.none _ _));intro fY w8 qY hb eB eC;clear eB eC;(first|rw [← lN.out] at qY|(simp only [Int.reduceToNat] at qY;rw [← lN.out] at qY));replace bh:=k0 (Kd.g_ (aS bh.out) (Kd.bW qY) hb);have cN:=k0 (Kd.dL qY (aU bl));replace ag:=k0 (akj (g:=ai) (o:=sO af aq aa ak 31) bk hb);replace HB:=k0 (aI bl hb);clear hb qY;have ud:w8.cell? ⟨ai,0,none⟩=some (.int .i64 af):=(av ag.out 0).trans rfl;have ue:w8.cell? ⟨ai,1,none⟩=some (.slice aq aa.length ak):=(av ag.out 1).trans rfl;have uj:=aH ag.out 0;have uk:=aH ag.out 1)|((with_reducible refine cZ (f:=195) rfl ?_);refine c_ (some 21) rfl rfl Try.func195 (by kernel_rfl) rfl #[.agg #[.int .i64 af,.slice aq aa.length ak]] rfl gm ?_;(with_reducible refine (cC.calls k af _ _ aa t108 _ ?akn ?aT A4.out).mono ?_);(case akn=>exact aC (Kd.bA bU.out HB.out));(case aT=>exact cG.out);rintro e akC ⟨v109,rfl,ake,hb⟩;refine ⟨_,rfl,?_⟩;have zH:=k0 (Kd.ak0 (Kd.lO (Kd.lO ake (Kd.uU (aS bh.out))) (Kd.cE (aR cN.out))) (aU bl));replace bh:=k0 (Kd.g_ (aS bh.out) (Kd.xW ake) hb);replace cN:=k0 (Kd.di (aR cN.out) hb);replace ag:=k0 (akj (g:=ai) (o:=sO af aq aa ak 31) bk hb);replace HB:=k0 (aI bl hb);(try clear hb);(try clear ake);obtain ⟨ke,akK,yc⟩:=Kd.oK zH.out;subst yc))
 go_loopg [7,8,23] k (fun kq v7 v8 v23 w'=>∃ (iw:List (List Int)) (bE:List Int) (akE:Int),v23=.int .i64 akE∧au (cm.l0 kq l1 a2 iw bE t108 (t108.length:Int) akE af aa=some r)∧au (kq≤k)∧au (Kd.S (Kd.slice 2 (Kd.int .i64)) 28 w' w.heap.size (fun k_=>some k_ ≠ (v8:Value).ownBlock∧some k_ ≠ ((.slice ke t108.length akK):Value).ownBlock) v7 iw)∧au (Kd.R (Kd.int .i64) 2 w' w.heap.size (fun _=>True) v8 bE)∧au (Kd.S (Kd.slice 2 (Kd.int .i64)) 28 w' w.heap.size (fun k_=>some k_ ≠ (v7:Value).ownBlock∧some k_ ≠ (v8:Value).ownBlock) (.slice ke t108.length akK) t108)∧au (w'.heap[ai]?=some (sO af aq aa ak 31))∧au (Below w.heap.size w w'))
 case atStart=>exact ⟨(eW),(jg),(0),rs,H',⟨Nat.le_refl _⟩,⟨aS (Kd.iK bh.out (fun _ hk=>⟨hk.1.2,hk.2⟩))⟩,⟨aR (cN.out)⟩,⟨aS (Kd.iK zH.out (fun _ hk=>⟨hk.1.2,hk.2⟩))⟩,⟨bk⟩,⟨bl⟩⟩
 case round =>
  clear H'
  (try clear ud);(try clear ue);(try clear uj);(try clear uk)
  obtain ⟨iw,bE,akE,rfl,HA,akl,cO,bF,kj,ag,HB⟩:=hrel
  cases gk with
  | zero=>exact absurd HA.out (by simp [cm.l0])
  | succ k1 =>
   have H:=HA.out
   clear HA
   simp only [cm.l0] at H
   by_cases c13:akE < (t108.length:Int)
   case neg =>
    rw [if_neg c13] at H
    have kQ:decide (akE < (t108.length:Int))=false:=decide_eq_false c13
    clear c13
    replace H:=Option.bind_eq_some_iff.mp H
    obtain ⟨t125,LF,H⟩:=H
    replace H:(cm.l1 k1 l1 a2 iw bE t125 (([]:List Int)) (iw.length:Int) 0 af aa)=some r:=H
    have DZ:=k0 LF
    clear LF
    obtain ⟨SM,Dc⟩:∃ y_:List Int,y_=(([]:List Int)):=⟨_,rfl⟩
    replace H:(cm.l1 k1 l1 a2 iw bE t125 SM (iw.length:Int) 0 af aa)=some r:=by first|(rw [Dc];with_reducible exact H)|(have ay:=(Option.bind_some _ _).symm.trans H;rw [Dc];with_reducible exact ay)|(have ay:=(Option.bind_some _ _).symm.trans H;with_reducible exact ay)|with_reducible exact H|(rw [Dc];exact H)|exact H
    have MY:=k0 Dc
    clear Dc
    have H':=k0 H
    clear H
    obtain ⟨r5,om,BO⟩:=Kd.oK cO.out
    subst BO
    go_wp2_with (first|((with_reducible refine cZ (f:=223) rfl ?_);refine c_ (some 49) rfl rfl Try.func223 (by kernel_rfl) rfl #[.slice r5 iw.length om] rfl gm ?_;(with_reducible refine (bw.calls k1 _ _ iw t125 _ ?akn ?aT DZ.out).mono ?_);(case akn=>exact aC ((Kd.bY cO.out).2.2));(case aT=>exact (Kd.bY cO.out).2.1);rintro e rY ⟨rfl,hb⟩;refine ⟨_,rfl,?_⟩;replace cO:=k0 (Kd.akP (aS cO.out) hb);replace bF:=k0 (Kd.di (aR bF.out) hb);replace kj:=k0 (Kd.akP (aS kj.out) hb);replace ag:=k0 (akj (g:=ai) (o:=sO af aq aa ak 31) bk hb);replace HB:=k0 (aI bl hb);(try clear hb))|((with_reducible refine cj (N:=50) rfl ?_);refine Kd.o8 (Kd.int .i64) _ 2 ?hg (N:=50) ?hd (xs:=([]:List Int)) (inner:=[]) (ok:=fun _=>True) (cA:=fun _=>True) ?hr ?hp (fun _ hk=>hk) trivial (Below.refl _ _) (Nat.le_refl _) (by simp) ?_;(case hd=>rfl);(case hg=>rfl);(case hr=>first|(go_simp;done)|(go_simp;rfl));(case hp=>exact (bS.none _ _));intro v127 uC xh hb eB eC;clear eB eC;(first|rw [← MY.out] at xh|(simp only [Int.reduceToNat] at xh;rw [← MY.out] at xh));replace cO:=k0 (Kd.g_ (aS cO.out) (Kd.bW xh) hb);replace kj:=k0 (Kd.g_ (aS kj.out) (Kd.bW xh) hb);have tQ:=k0 (Kd.dL (Kd.dW xh (Kd.cE (aR bF.out))) (aU bl));replace bF:=k0 (Kd.dV (aR bF.out) (Kd.bW xh) hb);replace ag:=k0 (akj (g:=ai) (o:=sO af aq aa ak 31) bk hb);replace HB:=k0 (aI bl hb);clear hb xh))
    go_loopg [12,53] k1 (fun kq v12 v53 w'=>∃ (dG:List (List Int)) (mN:List Int) (lK:List Int) (jy:Int),v53=.int .i64 jy∧au (cm.l1 kq l1 a2 dG mN t125 lK (iw.length:Int) jy af aa=some r)∧au (kq≤k1)∧au (Kd.S (Kd.slice 2 (Kd.int .i64)) 28 w' w.heap.size (fun k_=>some k_ ≠ (u8:Value).ownBlock∧some k_ ≠ (v12:Value).ownBlock) (.slice r5 iw.length om) dG)∧au (Kd.R (Kd.int .i64) 2 w' w.heap.size (fun k_=>some k_ ≠ (v12:Value).ownBlock) u8 mN)∧au (Kd.R (Kd.int .i64) 2 w' w.heap.size (fun k_=>some k_ ≠ (u8:Value).ownBlock) v12 lK)∧au (w'.heap[ai]?=some (sO af aq aa ak 31))∧au (Below w.heap.size w w'))
    case atStart=>exact ⟨(iw),(bE),(SM),(0),rs,H',⟨Nat.le_refl _⟩,⟨aS (Kd.iK cO.out (fun _ hk=>⟨hk.1.1,hk.2⟩))⟩,⟨aR (Kd.bG bF.out (fun _ hk=>hk.2))⟩,⟨aR (Kd.bG tQ.out (fun _ hk=>hk.2))⟩,⟨bk⟩,⟨bl⟩⟩
    case round =>
     clear H'
     (try clear c13);(try clear kQ);(try clear c14);(try clear ku);(try clear c15);(try clear kR);(try clear c16);(try clear qN);(try clear z7);(try clear c18);(try clear tY);(try clear c19);(try clear mA);(try clear c20);(try clear c21);(try clear tZ);(try clear c22);(try clear ud);(try clear ue);(try clear uj);(try clear uk);(try clear gM);(try clear yZ);(try clear gi);(try clear vO);(try clear gl);(try clear vR)
     obtain ⟨dG,mN,lK,jy,rfl,HA,bz,cO,bF,bV,ag,HB⟩:=hrel
     have jR:=(Kd.bY cO.out).1
     rw [jR] at cO
     (try simp only [jR])
     (try simp only [jR] at ag)
     (try simp only [jR] at bF)
     (try simp only [jR] at bV)
     cases gk with
     | zero=>exact absurd HA.out (by simp [cm.l1])
     | succ k2 =>
      have H:=HA.out
      clear HA
      simp only [cm.l1] at H
      by_cases c34:jy < (iw.length:Int)
      case neg =>
       rw [if_neg c34] at H
       have alw:decide (jy < (iw.length:Int))=false:=decide_eq_false c34
       (try simp only [jR] at alw)
       clear c34
       replace H:=iS H;obtain ⟨c57,H⟩:=H
       have Hy:=k0 c57
       clear c57
       obtain ⟨Lr,Dd⟩:∃ y_:List Int,y_=(qq lK a2 0):=⟨_,rfl⟩
       replace H:((cF.f k2 af aa l1 Lr).bind fun t132=>(some t132))=some r:=by first|(rw [Dd];with_reducible exact H)|(have ay:=(Option.bind_some _ _).symm.trans H;rw [Dd];with_reducible exact ay)|(have ay:=(Option.bind_some _ _).symm.trans H;with_reducible exact ay)|with_reducible exact H|(rw [Dd];exact H)|exact H
       have U4:=k0 Dd
       clear Dd
       replace H:=Option.bind_eq_some_iff.mp H
       obtain ⟨t132,LQ,H⟩:=H
       replace H:(some t132)=some r:=H
       have S3:=k0 LQ
       clear LQ
       obtain rfl:=Option.some.inj H
       try go_wp2
       replace cO:=k0 (Kd.eT cO.out);replace bF:=k0 (Kd.bn bF.out);replace bV:=k0 (Kd.bn bV.out);replace ag:=k0 (ct ag.out);replace HB:=k0 (cP HB.out)
       refine lJ (n:=8) (S:=fun w'=>w'.cell? ⟨ai,0,none⟩=some (.int .i64 af)∧w'.cell? ⟨ai,1,none⟩=some (.slice aq aa.length ak)) (ds:=[]) (ba 8 0) (by kernel_rfl) rfl rfl ⟨(av ag.out 0).trans rfl,(av ag.out 1).trans rfl⟩ (fun hHeld=>?_);refine qu cm.aej cm.VZ (fun aA dh=>?_)
       generalize wr.drew=zu at cO bF bV ag HB hHeld ⊢
       refine pu 1 (some 87) (ba 8 2) aA (h:=?_)
       refine pu 2 (some 88) (ba 8 6) aA (h:=?_)
       refine pu 3 (some 89) (ba 8 14) aA (h:=?_)
       refine ta 0 (some 86) (ba 8 15) aA dh hHeld (hy:=Or.inl ⟨by rfl,by rintro w' ⟨s0,s1⟩;go_simp;with_reducible rfl⟩) (h:=?_)
       refine lY (i:=4) (N:=some 90) (ba 8 31) rfl rfl (kF aA.out (by kernel_rfl)) (by decide) (fun K hK=>?_)
       refine Lf (w1:=?_) (v:=?_) (by rfl) rfl ?_ ?_
       rotate_left 2
       ·go_simp
        constructor
        ·rfl
        ·rfl
       refine hK.out _ _ ⟨(av (dX ag.out _) 0).trans rfl,(av (dX ag.out _) 1).trans rfl⟩ (fun hHeld=>?_)
       clear hK K
       refine aky (a':=?_) ?_ ?_
       rotate_left;· show Act.put _ (some 90) _=_;simp only [Act.put,zI,zZ,zS,akx,cu];rfl
       refine lY (i:=5) (N:=some 91) (ba 8 63) rfl rfl (kF aA.out (by kernel_rfl)) (by decide) (fun K hK=>?_)
       refine lD Try.func225 (by kernel_rfl) rfl #[u12,.int .i64 a2,.slice (some ⟨zu.heap.size,0,none⟩) 1 1] (by rfl) rfl rfl gm ?_
       refine (abX 0 lK a2 zu w w.heap.size (fun k_=>some k_ ≠ (u8:Value).ownBlock) u12 (aR bV.out) (fun k_ hk=>Kd.fresh' (Kd.cE (aR bF.out)) k_ hk) Hy.out.2.1 Hy.out.2.2 bl (aU bl) Hy.out.1).mono ?_
       rintro e SB ⟨v130,rfl,ho,hb,hg,cy⟩
       refine ⟨_,rfl,?_⟩
       rw [← U4.out] at ho
       have akf:=k0 (Kd.sj (ok:=(fun k_=>some k_ ≠ (u8:Value).ownBlock)) (aS cO.out) hg cy)
       have aD:=k0 (Kd.o7 (ok:=(fun _=>True)) (by (with_reducible repeat (first|apply Kd.bN|apply Kd.bQ|apply Kd.bn));exact Kd.bG bF.out (fun _ hk=>⟨trivial,hk⟩)) hg cy)
       have aJ:=k0 (jl (g:=ai) (o:=sO af aq aa ak 31) bk hg (Kd.iD bV.out ag.out (by decide)))
       have aX:=k0 (hb)
       have a_:=k0 (ho)
       clear cO
       clear bF
       clear ag
       clear HB
       clear bV
       have cO:=akf
       have bF:=aD
       have ag:=aJ
       have HB:=aX
       have eR:=a_
       clear akf aD aJ aX a_
       clear ho hb hg cy
       obtain ⟨Gv,Ik,ES⟩:=Kd.eK eR.out
       (first|subst ES|(injection ES with akL k9 gU;have akW:=akL.symm;have akX:=gU.symm;clear akL k9 gU;subst akW;subst akX))
       refine hK.out _ _ ⟨(av ag.out 0).trans rfl,(av ag.out 1).trans rfl⟩ (fun hHeld=>?_)
       clear hK K
       refine aky (a':=?_) ?_ ?_
       rotate_left;· show Act.put _ (some 91) _=_;simp only [Act.put,zI,zZ,zS,akx,cu];rfl
       refine lY (i:=6) (N:=some 92) (ba 8 127) rfl rfl (kF aA.out (by kernel_rfl)) (by decide) (fun K hK=>?_)
       refine lD Try.func186 (by kernel_rfl) rfl #[.agg #[.int .i64 af,.slice aq aa.length ak],.slice A1 l1.length c1,.slice Gv Lr.length Ik] (by rfl) rfl rfl gm ?_
       with_reducible refine (cF.calls k2 af _ _ aa _ _ l1 _ _ Lr t132 _ ?akn ?aT ?cn ?cw ?ak8 ?ak9 S3.out).mono ?_
       (case akn=>exact aC (Kd.bA bU.out HB.out))
       (case aT=>exact cG.out)
       (case cn=>exact aC (Kd.bA ek.out HB.out))
       (case cw=>exact jZ.out)
       (case ak8=>exact aC ((Kd.bu eR.out).2.2))
       (case ak9=>exact (Kd.bu eR.out).2.1)
       rintro e w62 ⟨ajG,rfl,ake,hb⟩
       refine ⟨_,rfl,?_⟩
       replace cO:=k0 (Kd.g_ (aS cO.out) (Kd.bW ake) hb);have Uk:=k0 (Kd.dL (Kd.dW (Kd.dW ake (Kd.cE (aR bF.out))) (Kd.cE (aR eR.out))) (aU bl));replace bF:=k0 (Kd.dV (aR bF.out) (Kd.bW ake) hb);replace eR:=k0 (Kd.dV (aR eR.out) (Kd.bW ake) hb);replace ag:=k0 (akj (g:=ai) (o:=sO af aq aa ak 31) bk hb);replace HB:=k0 (aI bl hb)
       (try clear hb);(try clear ake)
       refine hK.out _ _ ⟨(av ag.out 0).trans rfl,(av ag.out 1).trans rfl⟩ (fun hHeld=>?_)
       clear hK K
       refine aky (a':=?_) ?_ ?_
       rotate_left;· show Act.put _ (some 92) _=_;simp only [Act.put,zI,zZ,zS,akx,cu];rfl
       refine pu 7 (some 6) (ba 8 255) aA (h:=?_)
       refine lC (p_ aA.out (by kernel_rfl)) ?_
       try go_wp2
       go_ret
       exact ⟨_,by first|rfl|(simp [bq,bt]<;>rfl)|(simp [*,bq,bt]<;>rfl),by (with_reducible repeat (first|apply Kd.bN|apply Kd.bQ|apply Kd.bn));exact Kd.bG Uk.out (fun _ hk=>trivial),bl⟩
      rw [if_pos c34] at H
      have alw:=decide_eq_true c34
      (try simp only [jR] at alw)
      clear c34
      obtain ⟨SQ,Dg⟩:∃ y_:List (List Int),y_=(([]:List (List Int))):=⟨_,rfl⟩
      replace H:(cm.l2 k2 l1 a2 dG mN t125 lK jy SQ (iw.length:Int) jy (dG.length:Int) 0 af aa)=some r:=by first|(rw [Dg];with_reducible exact H)|(have ay:=(Option.bind_some _ _).symm.trans H;rw [Dg];with_reducible exact ay)|(have ay:=(Option.bind_some _ _).symm.trans H;with_reducible exact ay)|with_reducible exact H|(rw [Dg];exact H)|exact H
      have MZ:=k0 Dg
      clear Dg
      have H':=k0 H
      clear H
      go_wp2_with (first|((with_reducible refine cj (N:=56) rfl ?_);refine Kd.Bn (Kd.slice 2 (Kd.int .i64)) _ 28 ?hg (N:=56) ?hd (xs:=([]:List (List Int))) (inner:=[]) (ok:=fun _=>True) (cA:=fun _=>True) ?hr ?hp (fun _ hk=>hk) trivial (Below.refl _ _) (Nat.le_refl _) (by simp) ?_;(case hd=>rfl);(case hg=>rfl);(case hr=>first|(go_simp;done)|(go_simp;rfl));(case hp=>exact (bS.none _ _));intro ajH ak' ql hb eB eC;clear eB eC;(first|rw [← MZ.out] at ql|(simp only [Int.reduceToNat] at ql;rw [← MZ.out] at ql));have Ul:=k0 (Kd.ak0 (Kd.lO (Kd.lO (Kd.lO ql (Kd.uU (aS cO.out))) (Kd.cE (aR bF.out))) (Kd.cE (aR bV.out))) (aU bl));replace cO:=k0 (Kd.g_ (aS cO.out) (Kd.xW ql) hb);replace bF:=k0 (Kd.di (aR bF.out) hb);replace bV:=k0 (Kd.di (aR bV.out) hb);replace ag:=k0 (akj (g:=ai) (o:=sO af aq aa ak 31) bk hb);replace HB:=k0 (aI bl hb);clear hb ql))
      go_loopg [14,59] k2 (fun kq Gh v59 w'=>∃ (kX:List (List Int)) (aY:List Int) (cz:List Int) (rZ:List (List Int)) (akS:Int),v59=.int .i64 akS∧au (cm.l2 kq l1 a2 kX aY t125 cz jy rZ (iw.length:Int) jy (dG.length:Int) akS af aa=some r)∧au (kq≤k2)∧au (Kd.S (Kd.slice 2 (Kd.int .i64)) 28 w' w.heap.size (fun k_=>some k_ ≠ (u8:Value).ownBlock∧some k_ ≠ (u12:Value).ownBlock∧some k_ ≠ (Gh:Value).ownBlock) (.slice r5 dG.length om) kX)∧au (Kd.R (Kd.int .i64) 2 w' w.heap.size (fun k_=>some k_ ≠ (u12:Value).ownBlock) u8 aY)∧au (Kd.R (Kd.int .i64) 2 w' w.heap.size (fun k_=>some k_ ≠ (u8:Value).ownBlock) u12 cz)∧au (Kd.S (Kd.slice 2 (Kd.int .i64)) 28 w' w.heap.size (fun k_=>some k_ ≠ ((.slice r5 dG.length om):Value).ownBlock∧some k_ ≠ (u8:Value).ownBlock∧some k_ ≠ (u12:Value).ownBlock) Gh rZ)∧au (w'.heap[ai]?=some (sO af aq aa ak 31))∧au (Below w.heap.size w w'))
      case atStart=>exact ⟨(dG),(mN),(lK),(SQ),(0),rs,H',⟨Nat.le_refl _⟩,⟨by (try simp only [jR]);(with_reducible repeat (first|apply Kd.gI|apply Kd.gJ|apply Kd.eT));exact Kd.iK cO.out (fun _ hk=>⟨hk.1.1,⟨hk.1.2,hk.2⟩⟩)⟩,⟨by (try simp only [jR]);(with_reducible repeat (first|apply Kd.bN|apply Kd.bQ|apply Kd.bn));exact bF.out⟩,⟨by (try simp only [jR]);(with_reducible repeat (first|apply Kd.bN|apply Kd.bQ|apply Kd.bn));exact bV.out⟩,⟨by (try simp only [jR]);(with_reducible repeat (first|apply Kd.gI|apply Kd.gJ|apply Kd.eT));exact Kd.iK Ul.out (fun _ hk=>⟨hk.1.1.2,⟨hk.1.2,hk.2⟩⟩)⟩,⟨by (try simp only [jR]);exact bk⟩,⟨bl⟩⟩
      case round =>
       clear H'
       (try clear c13);(try clear kQ);(try clear c14);(try clear ku);(try clear c15);(try clear kR);(try clear c16);(try clear qN);(try clear z7);(try clear c18);(try clear tY);(try clear c19);(try clear mA);(try clear c20);(try clear c21);(try clear tZ);(try clear c22);(try clear c34);(try clear alw);(try clear ud);(try clear ue);(try clear uj);(try clear uk);(try clear gM);(try clear yZ);(try clear gi);(try clear vO);(try clear gl);(try clear vR)
       obtain ⟨kX,aY,cz,rZ,akS,rfl,HA,dg,cO,bF,bV,l_,ag,HB⟩:=hrel
       have lF:=(Kd.bY cO.out).1
       rw [lF] at cO
       (try simp only [lF])
       (try simp only [lF] at ag)
       (try simp only [lF] at bF)
       (try simp only [lF] at bV)
       (try simp only [lF] at l_)
       cases gk with
       | zero=>exact absurd HA.out (by simp [cm.l2])
       | succ k3 =>
        have H:=HA.out
        clear HA
        simp only [cm.l2] at H
        by_cases c37:akS < (dG.length:Int)
        case neg =>
         rw [if_neg c37] at H
         have H_:decide (akS < (dG.length:Int))=false:=decide_eq_false c37
         (try simp only [jR,lF] at H_)
         clear c37
         replace H:=Option.bind_eq_some_iff.mp H
         obtain ⟨t147,aly,H⟩:=H
         replace H:((wg.f t147 t125).bind fun t148=>(if cz.length < 17592186044416 then (cm.l1 k3 l1 a2 kX aY t125 (cz ++ [t148]) (iw.length:Int) (wrap64 (jy+1)) af aa) else (none)))=some r:=H
         have xJ:=k0 aly
         clear aly
         replace H:=Option.bind_eq_some_iff.mp H
         obtain ⟨t148,LL,H⟩:=H
         replace H:(if cz.length < 17592186044416 then (cm.l1 k3 l1 a2 kX aY t125 (cz ++ [t148]) (iw.length:Int) (wrap64 (jy+1)) af aa) else (none))=some r:=H
         have amX:=k0 LL
         clear LL
         replace H:=iS H;obtain ⟨c53,H⟩:=H
         have UM:=k0 c53
         clear c53
         obtain ⟨SS,Dj⟩:∃ y_:List Int,y_=(cz ++ [t148]):=⟨_,rfl⟩
         replace H:(cm.l1 k3 l1 a2 kX aY t125 SS (iw.length:Int) (wrap64 (jy+1)) af aa)=some r:=by first|(rw [Dj];with_reducible exact H)|(have ay:=(Option.bind_some _ _).symm.trans H;rw [Dj];with_reducible exact ay)|(have ay:=(Option.bind_some _ _).symm.trans H;with_reducible exact ay)|with_reducible exact H|(rw [Dj];exact H)|exact H
         have U9:=k0 Dj
         clear Dj
         have H':=k0 H
         clear H
         obtain ⟨L1,NR,X5⟩:=Kd.oK l_.out
         subst X5
         go_wp2_with (first|((with_reducible refine cZ (f:=223) rfl ?_);refine c_ (some 80) rfl rfl Try.func223 (by kernel_rfl) rfl #[.slice L1 rZ.length NR] rfl gm ?_;(with_reducible refine (bw.calls k3 _ _ rZ t147 _ ?akn ?aT xJ.out).mono ?_);(case akn=>exact aC ((Kd.bY l_.out).2.2));(case aT=>exact (Kd.bY l_.out).2.1);rintro e w55 ⟨rfl,hb⟩;refine ⟨_,rfl,?_⟩;replace cO:=k0 (Kd.akP (aS cO.out) hb);replace bF:=k0 (Kd.di (aR bF.out) hb);replace bV:=k0 (Kd.di (aR bV.out) hb);replace l_:=k0 (Kd.akP (aS l_.out) hb);replace ag:=k0 (akj (g:=ai) (o:=sO af aq aa ak 31) bk hb);replace HB:=k0 (aI bl hb);(try clear hb))|((with_reducible refine cZ (f:=224) rfl ?_);refine c_ (some 82) rfl rfl Try.func224 (by kernel_rfl) rfl #[.int .i64 t147,.int .i64 t125] rfl gm ?_;(with_reducible refine (wg.calls t147 t125 t148 _ amX.out).mono ?_);rintro e w' ⟨rfl,⟨nd,rfl⟩⟩;refine ⟨_,rfl,?_⟩)|((with_reducible refine oQ (b:=.append) (xs:=#[.tmp 78,.tmp 83]) rfl ?_);at_builtin;refine Kd.tV (Kd.int .i64) (w0:=w) w.heap.size rfl (.tmp 78) (.tmp 83) 28 2 (.int .i64 0) 8 rfl Try.underlying28 lH rfl (by decide) (by omega) u12 cz t148 [.int .i64 t148] (fun k_=>some k_ ≠ (u8:Value).ownBlock) (fun _=>False) rfl rfl ?aP (fun _ hk=>hk.elim) ?aF ?aO ?aB ?aS ?aL ?_;(case aP=>exact rfl);(case aB=>exact bl);(case aF=>exact (fun k_ hk=>Kd.fresh' (Kd.cE (aR bF.out)) k_ hk));(case aO=>exact (aR bV.out));(case aS=>exact (aU bl));(case aL=>have:=UM.out;omega);intro ajJ SA ho hb hg cy;rw [← U9.out] at ho;have akf:=k0 (Kd.sj (ok:=(fun k_=>some k_ ≠ (u8:Value).ownBlock∧some k_ ≠ (.slice L1 rZ.length NR:Value).ownBlock)) (by (with_reducible repeat (first|apply Kd.gI|apply Kd.gJ|apply Kd.eT));exact Kd.iK cO.out (fun _ hk=>⟨⟨hk.1,hk.2.2⟩,hk.2.1⟩)) hg cy);have aD:=k0 (Kd.o7 (ok:=(fun _=>True)) (by (with_reducible repeat (first|apply Kd.bN|apply Kd.bQ|apply Kd.bn));exact Kd.bG bF.out (fun _ hk=>⟨trivial,hk⟩)) hg cy);have aJ:=k0 (Kd.sj (ok:=(fun k_=>some k_ ≠ (.slice r5 kX.length om:Value).ownBlock∧some k_ ≠ (u8:Value).ownBlock)) (by (with_reducible repeat (first|apply Kd.gI|apply Kd.gJ|apply Kd.eT));exact Kd.iK l_.out (fun _ hk=>⟨⟨hk.1,hk.2.1⟩,hk.2.2⟩)) hg cy);have aX:=k0 (jl (g:=ai) (o:=sO af aq aa ak 31) bk hg (Kd.iD bV.out ag.out (by decide)));have a_:=k0 (hb);have akp:=k0 (ho);clear cO;clear bF;clear l_;clear ag;clear HB;clear bV;have cO:=akf;have bF:=aD;have l_:=aJ;have ag:=aX;have HB:=a_;have Un:=akp;clear akf aD aJ aX a_ akp;clear ho hb hg cy))
         (try simp only [← jR,← lF])
         go_roundg k3
         case measure=>have:=akl.out;have:=bz.out;have:=dg.out;omega
         case rel=>exact ⟨(kX),(aY),(SS),(wrap64 (jy+1)),rs,H',⟨by have:=akl.out;have:=bz.out;have:=dg.out;omega⟩,⟨by (try simp only [jR]);(try simp only [lF]);(with_reducible repeat (first|apply Kd.gI|apply Kd.gJ|apply Kd.eT));exact Kd.iK cO.out (fun _ hk=>⟨hk.1.1,hk.2⟩)⟩,⟨by (try simp only [jR]);(try simp only [lF]);(with_reducible repeat (first|apply Kd.bN|apply Kd.bQ|apply Kd.bn));exact Kd.bG bF.out (fun _ hk=>hk.2)⟩,⟨by (try simp only [jR]);(try simp only [lF]);(with_reducible repeat (first|apply Kd.bN|apply Kd.bQ|apply Kd.bn));exact Un.out⟩,⟨by (try simp only [jR]);(try simp only [lF]);exact bk⟩,⟨bl⟩⟩
        rw [if_pos c37] at H
        have H_:=decide_eq_true c37
        (try simp only [jR,lF] at H_)
        clear c37
        replace H:=iS H;obtain ⟨c38,H⟩:=H
        have wH:=decide_eq_true c38
        clear c38
        replace H:=iS H;obtain ⟨c39,H⟩:=H
        have EC:=decide_eq_true c39
        (try simp only [jR,lF] at EC)
        clear c39
        replace H:=Option.bind_eq_some_iff.mp H
        obtain ⟨t139,LG,H⟩:=H
        replace H:(if akS < (aY.length:Int) then (if 0≤jy then (if jy < (t139.length:Int) then (if rZ.length < 5864062014805 then (cm.l2 k3 l1 a2 kX aY t125 cz jy (rZ ++ [(t139.set (jy:Int).toNat (rd aY akS))]) (iw.length:Int) jy (dG.length:Int) (wrap64 (akS+1)) af aa) else (none)) else (none)) else (none)) else (none))=some r:=H
        have jA:=k0 LG
        clear LG
        replace H:=iS H;obtain ⟨c41,H⟩:=H
        have Aa:=decide_eq_true c41
        (try simp only [jR,lF] at Aa)
        clear c41
        replace H:=iS H;obtain ⟨c42,H⟩:=H
        have alE:=decide_eq_true c42
        clear c42
        replace H:=iS H;obtain ⟨c43,H⟩:=H
        have NB:=decide_eq_true c43
        (try simp only [jR,lF] at NB)
        clear c43
        obtain ⟨Gr,Dh⟩:∃ y_:List Int,y_=(t139.set (jy:Int).toNat (rd aY akS)):=⟨_,rfl⟩
        replace H:(if rZ.length < 5864062014805 then (cm.l2 k3 l1 a2 kX aY t125 cz jy (rZ ++ [Gr]) (iw.length:Int) jy (dG.length:Int) (wrap64 (akS+1)) af aa) else (none))=some r:=by first|(rw [Dh];with_reducible exact H)|(have ay:=(Option.bind_some _ _).symm.trans H;rw [Dh];with_reducible exact ay)|(have ay:=(Option.bind_some _ _).symm.trans H;with_reducible exact ay)|with_reducible exact H|(rw [Dh];exact H)|exact H
        have U7:=k0 Dh
        clear Dh
        replace H:=iS H;obtain ⟨c45,H⟩:=H
        have UL:=k0 c45
        clear c45
        obtain ⟨SR,Di⟩:∃ y_:List (List Int),y_=(rZ ++ [Gr]):=⟨_,rfl⟩
        replace H:(cm.l2 k3 l1 a2 kX aY t125 cz jy SR (iw.length:Int) jy (dG.length:Int) (wrap64 (akS+1)) af aa)=some r:=by first|(rw [Di];with_reducible exact H)|(have ay:=(Option.bind_some _ _).symm.trans H;rw [Di];with_reducible exact ay)|(have ay:=(Option.bind_some _ _).symm.trans H;with_reducible exact ay)|with_reducible exact H|(rw [Di];exact H)|exact H
        have U8:=k0 Di
        clear Di
        have H':=k0 H
        clear H
        have F1:0≤(akS:Int):=oD
        have F9:akS < (kX.length:Int):=oD
        obtain ⟨zW,Gu,HZ,e138,aby,Qy,Qi⟩:=cW (Kd.bY cO.out).2.2 akS F1 F9
        cases e138
        obtain ⟨agj,ZX,Zu,Pm⟩:=Kd.mj cO.out [] akS F1 (by first|exact F9|exact oD|(have e_:=(Kd.bY cO.out).1;omega))
        obtain ⟨ajY,rfl,IQ⟩:=Zu
        have CY:=Pm 0 _ rfl
        rw [Nat.add_zero,show ((Kd.slice 2 (Kd.int .i64))).sz=1 from rfl,Nat.mul_one] at CY
        replace CY:=Option.some.inj (CY.symm.trans aby)
        rw [CY] at IQ
        have wm:=k0 (show Kd.R (Kd.int .i64) 2 _ _ _ _ (ah kX akS) from IQ)
        clear CY IQ
        clear Pm ZX
        have Bg:=k0 Qi
        have T7:=k0 Qy
        clear Qi Qy
        replace F1:=eq_true F1
        replace F9:=eq_true F9
        go_wp2_with (first|((with_reducible refine cZ (f:=151) rfl ?_);refine c_ (some 65) rfl rfl Try.func151 (by kernel_rfl) rfl #[.slice Gu (ah kX akS).length HZ] rfl gm ?_;(with_reducible refine (nW.calls _ _ (ah kX akS) t139 _ ?akn ?aT jA.out).mono ?_);(case akn=>exact aC (by repeat (first|(with_reducible exact Bg.out)|(with_reducible refine Kd.kK ?_ _)|(with_reducible refine Kd.kY ?_ _)|(with_reducible refine Kd.jY ?_)|exact Bg.out)));(case aT=>exact T7.out);rintro e AV ⟨ajI,rfl,ake,hb⟩;refine ⟨_,rfl,?_⟩;replace cO:=k0 (Kd.g_ (aS cO.out) (Kd.bW ake) hb);replace l_:=k0 (Kd.g_ (aS l_.out) (Kd.bW ake) hb);have ri:=k0 (Kd.dL (Kd.dW (Kd.dW (Kd.dW ake (Kd.cE (aR bF.out))) (Kd.cE (aR bV.out))) (Kd.cE (aR wm.out))) (aU bl));replace bF:=k0 (Kd.dV (aR bF.out) (Kd.bW ake) hb);replace bV:=k0 (Kd.dV (aR bV.out) (Kd.bW ake) hb);replace wm:=k0 (Kd.dV (aR wm.out) (Kd.bW ake) hb);replace ag:=k0 (akj (g:=ai) (o:=sO af aq aa ak 31) bk hb);replace Bg:=k0 (Kd.bA (by repeat (first|(with_reducible exact Bg.out)|(with_reducible refine Kd.kK ?_ _)|(with_reducible refine Kd.kY ?_ _)|(with_reducible refine Kd.jY ?_)|exact Bg.out)) hb);replace HB:=k0 (aI bl hb);(try clear hb);(try clear ake);obtain ⟨ae',sx,X4⟩:=Kd.eK bF.out;subst X4;have KC:0≤(akS:Int):=oD;have KS:akS < (aY.length:Int):=oD;obtain ⟨sk,e142,ajc⟩:=Kd.bH (Kd.bu bF.out).2.2 akS KC KS;cases e142;replace KC:=eq_true KC;replace KS:=eq_true KS;have KJ:0≤(jy:Int):=oD;have KZ:(jy:Int) < ((t139.length:Int):Int):=oD;obtain ⟨oq,pz,N2,Ow,YT,agy,Mr⟩:=Kd.akT ri.out (by omega);(first|cases N2|(injection N2 with bf dn dm;(first|subst bf|(injection bf with bf;subst bf));subst dm;clear dn));have TQ:=k0 Ow;have afg:=k0 Mr;clear Ow YT Mr;obtain ⟨ajg,ahf⟩:=Kd.jD 0 ri.out (jy:Int) KJ KZ;replace KJ:=eq_true KJ;replace KZ:=eq_true KZ;have n_:=k0 (Kd.bG (ok':=(fun k_=>some k_ ≠ (.slice (some sk) aY.length sx:Value).ownBlock∧some k_ ≠ (u12:Value).ownBlock∧some k_ ≠ (.slice Gu (ah kX akS).length HZ:Value).ownBlock)) ri.out (fun k_ hk=>⟨hk.1.1.2,⟨hk.1.2,hk.2⟩⟩));clear ri;have ri:=n_;clear n_;obtain ⟨ajj,ajm⟩:=Kd.jD 0 ri.out (jy:Int) oD oD;have G9:=Kd.kP ri.out (jy:Int) (rd aY akS))|((with_reducible refine lf (t:=2) (p:=72) rfl ?_);refine lq (t:=2) (p:=72) (v:=?aka) (w1:=(AV.setCell ⟨oq,(jy:Int).toNat,none⟩ (.int .i64 (rd aY akS)))) ?hg ?ho ?hn ?hr ?_;(case ho=>rfl);(case hg=>rfl);(case hn=>rfl);(case hr=>first|(go_simp;done)|(go_simp;rfl));intro Ll hw;have hg:AV.grownBy Ll (some oq):=(by rw [hw];exact G9.2);have dZ:Kd.R (Kd.int .i64) 2 Ll w.heap.size (fun k_=>some k_ ≠ (.slice (some sk) aY.length sx:Value).ownBlock∧some k_ ≠ (u12:Value).ownBlock∧some k_ ≠ (.slice Gu (ah kX akS).length HZ:Value).ownBlock) (.slice (some ⟨oq,0,none⟩) t139.length pz) Gr:=(by rw [hw,U7.out];exact G9.1);clear G9;replace cO:=k0 (Kd.sj (v:=(.slice (some ⟨oq,0,none⟩) t139.length pz)) (v1:=(.slice (some ⟨oq,0,none⟩) t139.length pz)) (ok:=(fun k_=>some k_ ≠ (.slice (some sk) aY.length sx:Value).ownBlock∧some k_ ≠ (u12:Value).ownBlock∧some k_ ≠ (u14:Value).ownBlock)) (aS cO.out) hg (.inl rfl));replace bF:=k0 (Kd.o7 (v:=(.slice (some ⟨oq,0,none⟩) t139.length pz)) (v1:=(.slice (some ⟨oq,0,none⟩) t139.length pz)) (ok:=(fun k_=>some k_ ≠ (u12:Value).ownBlock)) (aR bF.out) hg (.inl rfl));replace bV:=k0 (Kd.o7 (v:=(.slice (some ⟨oq,0,none⟩) t139.length pz)) (v1:=(.slice (some ⟨oq,0,none⟩) t139.length pz)) (ok:=(fun k_=>some k_ ≠ (.slice (some sk) aY.length sx:Value).ownBlock)) (aR bV.out) hg (.inl rfl));replace l_:=k0 (Kd.sj (v:=(.slice (some ⟨oq,0,none⟩) t139.length pz)) (v1:=(.slice (some ⟨oq,0,none⟩) t139.length pz)) (ok:=(fun k_=>some k_ ≠ (.slice (some zW) kX.length om:Value).ownBlock∧some k_ ≠ (.slice (some sk) aY.length sx:Value).ownBlock∧some k_ ≠ (u12:Value).ownBlock)) (aS l_.out) hg (.inl rfl));replace ag:=k0 (jl (g:=ai) (o:=sO af aq aa ak 31) bk hg (Kd.iD ri.out ag.out (by decide)));replace wm:=k0 (Kd.o7 (v:=(.slice (some ⟨oq,0,none⟩) t139.length pz)) (v1:=(.slice (some ⟨oq,0,none⟩) t139.length pz)) (ok:=(fun k_=>some k_ ≠ (.slice (some zW) kX.length om:Value).ownBlock∧some k_ ≠ (.slice (some sk) aY.length sx:Value).ownBlock∧some k_ ≠ (u12:Value).ownBlock∧some k_ ≠ (u14:Value).ownBlock)) (by (with_reducible repeat (first|apply Kd.bN|apply Kd.bQ|apply Kd.bn));exact Kd.bG wm.out (fun _ hk=>⟨⟨hk.1.2,⟨hk.1.1.1,⟨hk.1.1.2.1,hk.1.1.2.2⟩⟩⟩,hk.2⟩)) hg (.inl rfl));replace ri:=k0 (dZ);replace HB:=k0 ((by rw [hw];exact dM (HB.out) TQ.out:Below w.heap.size w Ll));clear hg hw dZ)|((with_reducible refine oQ (b:=.append) (xs:=#[.tmp 73,.tmp 75]) rfl ?_);at_builtin;refine Kd.Bm (Kd.slice 2 (Kd.int .i64)) (w0:=w) w.heap.size rfl (.tmp 73) (.tmp 75) 22 28 (.slice none 0 0) 24 rfl Try.underlying22 xo rfl (by decide) (by omega) u14 rZ Gr [.slice (some ⟨oq,0,none⟩) t139.length pz] (fun k_=>some k_ ≠ (.slice (some zW) kX.length om:Value).ownBlock∧some k_ ≠ (.slice (some sk) aY.length sx:Value).ownBlock∧some k_ ≠ (u12:Value).ownBlock) (fun k_=>some k_=(.slice (some ⟨oq,0,none⟩) t139.length pz:Value).ownBlock) rfl rfl ?aP (fun k_ jQ=>((Kd.bG (ok':=fun k_=>((fun k_=>some k_ ≠ (.slice (some zW) kX.length om:Value).ownBlock∧some k_ ≠ (.slice (some sk) aY.length sx:Value).ownBlock∧some k_ ≠ (u12:Value).ownBlock)) k_∧some k_ ≠ (u14:Value).ownBlock) (Kd.lA (Kd.lA (ri.out) (Kd.akQ cO.out) (by decide)) (Kd.akQ l_.out) (by decide)) (fun k_ hk=>⟨⟨hk.1.2,⟨hk.1.1.1,hk.1.1.2.1⟩⟩,hk.2⟩))).1 k_ jQ.symm) ?aF ?aO ?aB ?aS ?aL ?_;(case aP=>exact Kd.rz (Kd.bG (Kd.si rfl (Kd.bG (ok':=fun k_=>((fun k_=>some k_ ≠ (.slice (some zW) kX.length om:Value).ownBlock∧some k_ ≠ (.slice (some sk) aY.length sx:Value).ownBlock∧some k_ ≠ (u12:Value).ownBlock)) k_∧some k_ ≠ (u14:Value).ownBlock) (Kd.lA (Kd.lA (ri.out) (Kd.akQ cO.out) (by decide)) (Kd.akQ l_.out) (by decide)) (fun k_ hk=>⟨⟨hk.1.2,⟨hk.1.1.1,hk.1.1.2.1⟩⟩,hk.2⟩))) (fun _ h_=>h_)));(case aB=>exact bl);(case aF=>exact (fun k_ hk=>⟨Kd.fresh' (Kd.uU (aS cO.out)) k_ hk,Kd.fresh' (Kd.cE (aR bF.out)) k_ hk,Kd.fresh' (Kd.cE (aR bV.out)) k_ hk⟩));(case aO=>exact (by (with_reducible repeat (first|apply Kd.gI|apply Kd.gJ|apply Kd.eT));exact Kd.iK l_.out (fun k_ hk=>⟨⟨hk.1.1,⟨hk.1.2.1,hk.1.2.2⟩⟩,fun e_=>hk.2 e_⟩)));(case aS=>exact (aU bl));(case aL=>have:=UL.out;omega);intro v145 w50 ho hb hg cy;rw [← U8.out] at ho;have akf:=k0 (Kd.sj (ok:=(fun k_=>some k_ ≠ (.slice (some sk) aY.length sx:Value).ownBlock∧some k_ ≠ (u12:Value).ownBlock∧some k_ ≠ (.slice (some ⟨oq,0,none⟩) t139.length pz:Value).ownBlock)) (by (with_reducible repeat (first|apply Kd.gI|apply Kd.gJ|apply Kd.eT));exact Kd.iK cO.out (fun _ hk=>⟨⟨hk.1.1,⟨hk.1.2.1,hk.2⟩⟩,hk.1.2.2⟩)) hg cy);have aD:=k0 (Kd.amI (aR bF.out) (Kd.akQ (aS l_.out)) (by decide) hg);have aJ:=k0 (Kd.amI (aR bV.out) (Kd.akQ (aS l_.out)) (by decide) hg);have aX:=k0 (jl (g:=ai) (o:=sO af aq aa ak 31) bk hg (Kd.zU l_.out ag.out (by decide)));have a_:=k0 (Kd.o7 (ok:=(fun k_=>some k_ ≠ (.slice (some zW) kX.length om:Value).ownBlock∧some k_ ≠ (.slice (some sk) aY.length sx:Value).ownBlock∧some k_ ≠ (u12:Value).ownBlock∧some k_ ≠ (.slice (some ⟨oq,0,none⟩) t139.length pz:Value).ownBlock)) (by (with_reducible repeat (first|apply Kd.bN|apply Kd.bQ|apply Kd.bn));exact Kd.bG wm.out (fun _ hk=>⟨⟨hk.1.1,⟨hk.1.2.1,⟨hk.1.2.2.1,hk.2⟩⟩⟩,hk.1.2.2.2⟩)) hg cy);have akp:=k0 (hb);have bx:=k0 (ho);clear cO;clear bF;clear bV;clear ag;clear wm;clear HB;clear l_;clear ri;have cO:=akf;have bF:=aD;have bV:=aJ;have ag:=aX;have wm:=a_;have HB:=akp;have Um:=bx;clear akf aD aJ aX a_ akp bx;clear ho hb hg cy))
        (try simp only [← lF])
        go_roundg k3
        case measure=>have:=akl.out;have:=bz.out;have:=dg.out;omega
        case rel=>exact ⟨(kX),(aY),(cz),(SR),(wrap64 (akS+1)),rs,H',⟨by have:=akl.out;have:=bz.out;have:=dg.out;omega⟩,⟨by (try simp only [jR]);(try simp only [lF]);(with_reducible repeat (first|apply Kd.gI|apply Kd.gJ|apply Kd.eT));exact Kd.iK cO.out (fun _ hk=>⟨hk.1.1,⟨hk.1.2.1,hk.2⟩⟩)⟩,⟨by (try simp only [jR]);(try simp only [lF]);(with_reducible repeat (first|apply Kd.bN|apply Kd.bQ|apply Kd.bn));exact Kd.bG bF.out (fun _ hk=>hk.1)⟩,⟨by (try simp only [jR]);(try simp only [lF]);(with_reducible repeat (first|apply Kd.bN|apply Kd.bQ|apply Kd.bn));exact Kd.bG bV.out (fun _ hk=>hk.1)⟩,⟨by (try simp only [jR]);(try simp only [lF]);(with_reducible repeat (first|apply Kd.gI|apply Kd.gJ|apply Kd.eT));exact Um.out⟩,⟨by (try simp only [jR]);(try simp only [lF]);exact bk⟩,⟨bl⟩⟩
   rw [if_pos c13] at H
   have kQ:=decide_eq_true c13
   clear c13
   replace H:=iS H;obtain ⟨c14,H⟩:=H
   have ku:=decide_eq_true c14
   clear c14
   replace H:=iS H;obtain ⟨c15,H⟩:=H
   have kR:=decide_eq_true c15
   clear c15
   by_cases c16:akE=a2
   case neg =>
    rw [if_neg c16] at H
    have qN:(akE == a2)=false:=beq_eq_false_iff_ne.mpr c16
    have z7:(akE != a2)=true:=bne_iff_ne.mpr c16
    replace H:=Option.bind_eq_some_iff.mp H
    obtain ⟨t112,vZ,H⟩:=H
    replace H:(if 0≤a2 then (if a2 < (t112.length:Int) then (if iw.length < 5864062014805 then (if akE < (l1.length:Int) then (if bE.length < 17592186044416 then (cm.l0 k1 l1 a2 (iw ++ [(t112.eraseIdx (a2:Int).toNat)]) (bE ++ [rd l1 akE]) t108 (t108.length:Int) (wrap64 (akE+1)) af aa) else (none)) else (none)) else (none)) else (none)) else (none))=some r:=H
    have tN:=k0 vZ
    clear vZ
    replace H:=iS H;obtain ⟨c18,H⟩:=H
    have tY:=decide_eq_true c18
    clear c18
    replace H:=iS H;obtain ⟨c19,H⟩:=H
    have mA:=decide_eq_true c19
    clear c19
    obtain ⟨dU,gf⟩:∃ y_:List Int,y_=(t112.eraseIdx (a2:Int).toNat):=⟨_,rfl⟩
    replace H:(if iw.length < 5864062014805 then (if akE < (l1.length:Int) then (if bE.length < 17592186044416 then (cm.l0 k1 l1 a2 (iw ++ [dU]) (bE ++ [rd l1 akE]) t108 (t108.length:Int) (wrap64 (akE+1)) af aa) else (none)) else (none)) else (none))=some r:=by first|(rw [gf];with_reducible exact H)|(have ay:=(Option.bind_some _ _).symm.trans H;rw [gf];with_reducible exact ay)|(have ay:=(Option.bind_some _ _).symm.trans H;with_reducible exact ay)|with_reducible exact H|(rw [gf];exact H)|exact H
    have mV:=k0 gf
    clear gf
    replace H:=iS H;obtain ⟨c20,H⟩:=H
    have UJ:=k0 c20
    clear c20
    obtain ⟨Lq,Da⟩:∃ y_:List (List Int),y_=(iw ++ [dU]):=⟨_,rfl⟩
    replace H:(if akE < (l1.length:Int) then (if bE.length < 17592186044416 then (cm.l0 k1 l1 a2 Lq (bE ++ [rd l1 akE]) t108 (t108.length:Int) (wrap64 (akE+1)) af aa) else (none)) else (none))=some r:=by first|(rw [Da];with_reducible exact H)|(have ay:=(Option.bind_some _ _).symm.trans H;rw [Da];with_reducible exact ay)|(have ay:=(Option.bind_some _ _).symm.trans H;with_reducible exact ay)|with_reducible exact H|(rw [Da];exact H)|exact H
    have U2:=k0 Da
    clear Da
    replace H:=iS H;obtain ⟨c21,H⟩:=H
    have tZ:=decide_eq_true c21
    clear c21
    replace H:=iS H;obtain ⟨c22,H⟩:=H
    have UK:=k0 c22
    clear c22
    obtain ⟨SL,Db⟩:∃ y_:List Int,y_=(bE ++ [rd l1 akE]):=⟨_,rfl⟩
    replace H:(cm.l0 k1 l1 a2 Lq SL t108 (t108.length:Int) (wrap64 (akE+1)) af aa)=some r:=by first|(rw [Db];with_reducible exact H)|(have ay:=(Option.bind_some _ _).symm.trans H;rw [Db];with_reducible exact ay)|(have ay:=(Option.bind_some _ _).symm.trans H;with_reducible exact ay)|with_reducible exact H|(rw [Db];exact H)|exact H
    have U3:=k0 Db
    clear Db
    have H':=k0 H
    clear H
    have gi:0≤(akE:Int):=oD
    have gl:akE < (t108.length:Int):=oD
    obtain ⟨mX,DY,EB,e111,gM,xe,xb⟩:=cW (Kd.bY kj.out).2.2 akE gi gl
    cases e111
    obtain ⟨WS,Jj,I8,Ce⟩:=Kd.mj kj.out [] akE gi (by first|exact gl|exact oD|(have e_:=(Kd.bY kj.out).1;omega))
    obtain ⟨aeA,rfl,yg⟩:=I8
    have alm:=Ce 0 _ rfl
    rw [Nat.add_zero,show ((Kd.slice 2 (Kd.int .i64))).sz=1 from rfl,Nat.mul_one] at alm
    replace alm:=Option.some.inj (alm.symm.trans gM)
    rw [alm] at yg
    have ald:=k0 (show Kd.R (Kd.int .i64) 2 _ _ _ _ (ah t108 akE) from yg)
    clear alm yg
    clear Ce Jj
    have alB:=k0 xb
    have GQ:=k0 xe
    clear xb xe
    replace gi:=eq_true gi
    replace gl:=eq_true gl
    go_wp2_with (first|((with_reducible refine cZ (f:=151) rfl ?_);refine c_ (some 33) rfl rfl Try.func151 (by kernel_rfl) rfl #[.slice DY (ah t108 akE).length EB] rfl gm ?_;(with_reducible refine (nW.calls _ _ (ah t108 akE) t112 _ ?akn ?aT tN.out).mono ?_);(case akn=>exact aC (by repeat (first|(with_reducible exact alB.out)|(with_reducible refine Kd.kK ?_ _)|(with_reducible refine Kd.kY ?_ _)|(with_reducible refine Kd.jY ?_)|exact alB.out)));(case aT=>exact GQ.out);rintro e vW ⟨aex,rfl,ake,hb⟩;refine ⟨_,rfl,?_⟩;replace cO:=k0 (Kd.g_ (aS cO.out) (Kd.bW ake) hb);replace kj:=k0 (Kd.g_ (aS kj.out) (Kd.bW ake) hb);have o6:=k0 (Kd.dL (Kd.dW (Kd.dW ake (Kd.cE (aR bF.out))) (Kd.cE (aR ald.out))) (aU bl));replace bF:=k0 (Kd.dV (aR bF.out) (Kd.bW ake) hb);replace ald:=k0 (Kd.dV (aR ald.out) (Kd.bW ake) hb);replace ag:=k0 (akj (g:=ai) (o:=sO af aq aa ak 31) bk hb);replace alB:=k0 (Kd.bA (by repeat (first|(with_reducible exact alB.out)|(with_reducible refine Kd.kK ?_ _)|(with_reducible refine Kd.kY ?_ _)|(with_reducible refine Kd.jY ?_)|exact alB.out)) hb);replace HB:=k0 (aI bl hb);(try clear hb);(try clear ake);obtain ⟨ae9,qQ,XZ⟩:=Kd.eK o6.out;subst XZ;have n_:=k0 (Kd.bG (ok':=(fun k_=>some k_ ≠ (u8:Value).ownBlock∧some k_ ≠ (.slice DY (ah t108 akE).length EB:Value).ownBlock)) o6.out (fun k_ hk=>⟨hk.1.2,hk.2⟩));clear o6;have o6:=n_;clear n_)|(go_at_call 222;have P8:0≤(a2:Int):=oD;have Qj:(a2:Int) < (t112.length:Int):=oD;obtain ⟨qR,cap_,Yo,_⟩:=Kd.akT o6.out (by omega);injection Yo with bf dn dm;subst bf;clear dn dm;refine (Tx.calls _ qR t112.length qQ t112 a2 w.heap.size w _ bl (aU bl) (aR o6.out) P8 Qj).mono ?_;rintro e DP ⟨rfl,ho,hb,hg⟩;clear P8 Qj;rw [← mV.out] at ho;have QE:t112.length - 1=dU.length:=(by have:=(Kd.bu ho).1;omega);rw [QE] at ho ⊢;clear QE;replace cO:=k0 (Kd.sj (v:=(.slice (some ⟨qR,0,none⟩) t112.length qQ)) (v1:=.slice (some ⟨qR,0,none⟩) dU.length qQ) (ok:=(fun k_=>some k_ ≠ (u8:Value).ownBlock∧some k_ ≠ (.slice (some mX) t108.length akK:Value).ownBlock)) (aS cO.out) hg (.inl rfl));replace bF:=k0 (Kd.o7 (v:=(.slice (some ⟨qR,0,none⟩) t112.length qQ)) (v1:=.slice (some ⟨qR,0,none⟩) dU.length qQ) (ok:=(fun _=>True)) (aR bF.out) hg (.inl rfl));replace kj:=k0 (Kd.sj (v:=(.slice (some ⟨qR,0,none⟩) t112.length qQ)) (v1:=.slice (some ⟨qR,0,none⟩) dU.length qQ) (ok:=(fun k_=>some k_ ≠ (u7:Value).ownBlock∧some k_ ≠ (u8:Value).ownBlock)) (aS kj.out) hg (.inl rfl));replace ag:=k0 (jl (g:=ai) (o:=sO af aq aa ak 31) bk hg (Kd.iD o6.out ag.out (by decide)));replace ald:=k0 (Kd.o7 (v:=(.slice (some ⟨qR,0,none⟩) t112.length qQ)) (v1:=.slice (some ⟨qR,0,none⟩) dU.length qQ) (ok:=(fun k_=>some k_ ≠ (u7:Value).ownBlock∧some k_ ≠ (u8:Value).ownBlock∧some k_ ≠ (.slice (some mX) t108.length akK:Value).ownBlock)) (by (with_reducible repeat (first|apply Kd.bN|apply Kd.bQ|apply Kd.bn));exact Kd.bG ald.out (fun _ hk=>⟨⟨hk.1.1.1,⟨hk.1.1.2,hk.1.2⟩⟩,hk.2⟩)) hg (.inl rfl));replace o6:=k0 (ho);replace HB:=k0 (hb);clear ho hb hg)|((with_reducible refine oQ (b:=.append) (xs:=#[.tmp 31,.tmp 38]) rfl ?_);at_builtin;refine Kd.Bm (Kd.slice 2 (Kd.int .i64)) (w0:=w) w.heap.size rfl (.tmp 31) (.tmp 38) 22 28 (.slice none 0 0) 24 rfl Try.underlying22 xo rfl (by decide) (by omega) u7 iw dU [.slice (some ⟨qR,0,none⟩) dU.length qQ] (fun k_=>some k_ ≠ (u8:Value).ownBlock∧some k_ ≠ (.slice (some mX) t108.length akK:Value).ownBlock) (fun k_=>some k_=(.slice (some ⟨qR,0,none⟩) dU.length qQ:Value).ownBlock) rfl rfl ?aP (fun k_ jQ=>((Kd.bG (ok':=fun k_=>((fun k_=>some k_ ≠ (u8:Value).ownBlock∧some k_ ≠ (.slice (some mX) t108.length akK:Value).ownBlock)) k_∧some k_ ≠ (u7:Value).ownBlock) (Kd.lA (Kd.lA (o6.out) (Kd.akQ kj.out) (by decide)) (Kd.akQ cO.out) (by decide)) (fun k_ hk=>⟨⟨hk.1.1.1,hk.1.2⟩,hk.2⟩))).1 k_ jQ.symm) ?aF ?aO ?aB ?aS ?aL ?_;(case aP=>exact Kd.rz (Kd.bG (Kd.si rfl (Kd.bG (ok':=fun k_=>((fun k_=>some k_ ≠ (u8:Value).ownBlock∧some k_ ≠ (.slice (some mX) t108.length akK:Value).ownBlock)) k_∧some k_ ≠ (u7:Value).ownBlock) (Kd.lA (Kd.lA (o6.out) (Kd.akQ kj.out) (by decide)) (Kd.akQ cO.out) (by decide)) (fun k_ hk=>⟨⟨hk.1.1.1,hk.1.2⟩,hk.2⟩))) (fun _ h_=>h_)));(case aB=>exact bl);(case aF=>exact (fun k_ hk=>⟨Kd.fresh' (Kd.cE (aR bF.out)) k_ hk,Kd.fresh' (Kd.uU (aS kj.out)) k_ hk⟩));(case aO=>exact (by (with_reducible repeat (first|apply Kd.gI|apply Kd.gJ|apply Kd.eT));exact Kd.iK cO.out (fun k_ hk=>⟨⟨hk.1.1,hk.1.2⟩,fun e_=>hk.2 e_⟩)));(case aS=>exact (aU bl));(case aL=>have:=UJ.out;omega);intro Sm AU ho hb hg cy;rw [← U2.out] at ho;have akf:=k0 (Kd.amI (aR bF.out) (Kd.akQ (aS cO.out)) (by decide) hg);have aD:=k0 (Kd.sj (ok:=(fun k_=>some k_ ≠ (u8:Value).ownBlock∧some k_ ≠ (.slice (some ⟨qR,0,none⟩) dU.length qQ:Value).ownBlock)) (by (with_reducible repeat (first|apply Kd.gI|apply Kd.gJ|apply Kd.eT));exact Kd.iK kj.out (fun _ hk=>⟨⟨hk.1.2,hk.2⟩,hk.1.1⟩)) hg cy);have aJ:=k0 (jl (g:=ai) (o:=sO af aq aa ak 31) bk hg (Kd.zU cO.out ag.out (by decide)));have aX:=k0 (Kd.o7 (ok:=(fun k_=>some k_ ≠ (u8:Value).ownBlock∧some k_ ≠ (.slice (some mX) t108.length akK:Value).ownBlock∧some k_ ≠ (.slice (some ⟨qR,0,none⟩) dU.length qQ:Value).ownBlock)) (by (with_reducible repeat (first|apply Kd.bN|apply Kd.bQ|apply Kd.bn));exact Kd.bG ald.out (fun _ hk=>⟨⟨hk.1.2.1,⟨hk.1.2.2,hk.2⟩⟩,hk.1.1⟩)) hg cy);have a_:=k0 (hb);have akp:=k0 (ho);clear bF;clear kj;clear ag;clear ald;clear HB;clear cO;clear o6;have bF:=akf;have kj:=aD;have ag:=aJ;have ald:=aX;have HB:=a_;have Ee:=akp;clear akf aD aJ aX a_ akp;clear ho hb hg cy;have vO:0≤(akE:Int):=oD;have vR:akE < (l1.length:Int):=oD;obtain ⟨HU,e121,yZ⟩:=Kd.bH ek.out akE vO vR;cases e121;replace yZ:=hbc HB yZ;replace vO:=eq_true vO;replace vR:=eq_true vR)|((with_reducible refine oQ (b:=.append) (xs:=#[.tmp 40,.tmp 45]) rfl ?_);at_builtin;refine Kd.tV (Kd.int .i64) (w0:=w) w.heap.size rfl (.tmp 40) (.tmp 45) 28 2 (.int .i64 0) 8 rfl Try.underlying28 lH rfl (by decide) (by omega) u8 bE (rd l1 akE) [.int .i64 (rd l1 akE)] (fun _=>True) (fun _=>False) rfl rfl ?aP (fun _ hk=>hk.elim) ?aF ?aO ?aB ?aS ?aL ?_;(case aP=>exact rfl);(case aB=>exact bl);(case aF=>exact (fun _ _=>trivial));(case aO=>exact (by (with_reducible repeat (first|apply Kd.bN|apply Kd.bQ|apply Kd.bn));exact Kd.bG bF.out (fun _ hk=>trivial)));(case aS=>exact (aU bl));(case aL=>have:=UK.out;omega);intro ajF nw ho hb hg cy;rw [← U3.out] at ho;have akf:=k0 (Kd.sj (ok:=(fun k_=>some k_ ≠ (Sm:Value).ownBlock)) (by (with_reducible repeat (first|apply Kd.gI|apply Kd.gJ|apply Kd.eT));exact Kd.iK kj.out (fun _ hk=>⟨hk.2,hk.1.1⟩)) hg cy);have aD:=k0 (jl (g:=ai) (o:=sO af aq aa ak 31) bk hg (Kd.iD bF.out ag.out (by decide)));have aJ:=k0 (Kd.o7 (ok:=(fun k_=>some k_ ≠ (.slice (some mX) t108.length akK:Value).ownBlock∧some k_ ≠ (Sm:Value).ownBlock)) (by (with_reducible repeat (first|apply Kd.bN|apply Kd.bQ|apply Kd.bn));exact Kd.bG ald.out (fun _ hk=>⟨⟨hk.1.2.1,hk.2⟩,hk.1.1⟩)) hg cy);have aX:=k0 (Kd.sj (ok:=(fun k_=>some k_ ≠ (.slice (some mX) t108.length akK:Value).ownBlock)) (by (with_reducible repeat (first|apply Kd.gI|apply Kd.gJ|apply Kd.eT));exact Kd.iK Ee.out (fun _ hk=>⟨hk.2,hk.1⟩)) hg cy);have a_:=k0 (hb);have akp:=k0 (ho);clear kj;clear ag;clear ald;clear Ee;clear HB;clear bF;have kj:=akf;have ag:=aD;have ald:=aJ;have Ee:=aX;have HB:=a_;have Uj:=akp;clear akf aD aJ aX a_ akp;clear ho hb hg cy))
    go_roundg k1
    case measure=>have:=akl.out;omega
    case rel=>exact ⟨(Lq),(SL),(wrap64 (akE+1)),rs,H',⟨by have:=akl.out;omega⟩,⟨aS (Kd.iK Ee.out (fun _ hk=>⟨hk.2,hk.1⟩))⟩,⟨aR (Uj.out)⟩,⟨aS (kj.out)⟩,⟨bk⟩,⟨bl⟩⟩
   rw [if_pos c16] at H
   have qN:(akE == a2)=true:=beq_iff_eq.mpr c16
   have z7:(akE != a2)=false:=bne_eq_false_iff_eq.mpr c16
   clear c16
   have H':=k0 H
   clear H
   have gi:0≤(akE:Int):=oD
   have gl:akE < (t108.length:Int):=oD
   obtain ⟨mX,DY,EB,e111,gM,xe,xb⟩:=cW (Kd.bY kj.out).2.2 akE gi gl
   cases e111
   obtain ⟨WS,Jj,I8,Ce⟩:=Kd.mj kj.out [] akE gi (by first|exact gl|exact oD|(have e_:=(Kd.bY kj.out).1;omega))
   obtain ⟨aeA,rfl,yg⟩:=I8
   have alm:=Ce 0 _ rfl
   rw [Nat.add_zero,show ((Kd.slice 2 (Kd.int .i64))).sz=1 from rfl,Nat.mul_one] at alm
   replace alm:=Option.some.inj (alm.symm.trans gM)
   rw [alm] at yg
   have ald:=k0 (show Kd.R (Kd.int .i64) 2 _ _ _ _ (ah t108 akE) from yg)
   clear alm yg
   clear Ce Jj
   have alB:=k0 xb
   have GQ:=k0 xe
   clear xb xe
   replace gi:=eq_true gi
   replace gl:=eq_true gl
   go_wp2
   go_roundg k1
   case measure=>have:=akl.out;omega
   case rel=>exact ⟨(iw),(bE),(wrap64 (akE+1)),rs,H',⟨by have:=akl.out;omega⟩,⟨aS (cO.out)⟩,⟨aR (bF.out)⟩,⟨aS (kj.out)⟩,⟨bk⟩,⟨bl⟩⟩
/-! ### F226: function 226 -/
theorem mul_one (n:Nat) (hn:n < 4294967296) (w:World):Calls Try.prog 241 #[.int .u64 1,.int .u64 n] w fun e w'=>e=.returned (.tuple #[.int .u64 0,.int .u64 n])∧w'=w:=by
 have m1:bits .and .u64 (1:Int) 4294967295=1:=by rfl
 have m2:=Mul64.maskN n (by omega)
 rw [Nat.mod_eq_of_lt hn] at m2
 have m3:(1:Int) / 4294967296=0:=by decide
 have m4:(n:Int) / 4294967296=0:=by omega
 have m5:=Mul64.wrapN n (by omega)
 have m6:bits .and .u64 (0:Int) 4294967295=0:=by rfl
 have m7:IntKind.u64.wrap 0=0:=by rfl
 go_enter Try.func241,Try.ntmps241
 go_wp2
 go_ret2
 exact ⟨rfl,rfl⟩
def xC (x:Int) (n m g:Nat) (wr:World):Prop:=∃ cur:Array Value,wr.heap[g]?=some (.cells cur 2 (0,0))∧cur.size=n∧cur.toList.take m=List.replicate m (.int .i64 x)
theorem Ga {x:Int} {n m g:Nat} {wr:World} (h:xC x n m g wr):xC x n m g wr.drew:=h
theorem DE {x:Int} {n m g:Nat} {wr:World} (h:xC x n m g wr) (j:Nat) (hj:j < n):(wr.cell? ⟨g,j,none⟩).isSome=true∧wr.frozen? ⟨g,j,none⟩=false∧(j < m→wr.cell? ⟨g,j,none⟩=some (.int .i64 x)):=by
 obtain ⟨cur,h1,h2,h3⟩:=h
 refine ⟨?_,aH h1 j,fun hm=>?_⟩
 ·rw [av h1 j,Array.getElem?_eq_getElem (by omega)];rfl
 ·rw [av h1 j]
  have h4:(cur.toList.take m)[j]?=some (.int .i64 x):=by rw [h3,List.getElem?_replicate,if_pos hm]
  rw [List.getElem?_take,if_pos hm] at h4
  simpa using h4
theorem R8 {x:Int} {n m g k:Nat} {wr:World} (h:xC x n m g wr) (hk:m+k≤n):xC x n (m+k) g (wr.setCells g m (List.replicate k (.int .i64 x))):=by
 obtain ⟨cur,h1,h2,h3⟩:=h
 obtain ⟨cur',h4,h5,h6⟩:=uA (List.replicate k (.int .i64 x)) m wr cur h1 (by rw [List.length_replicate];omega)
 refine ⟨cur',h4,by omega,?_⟩
 rw [h6,h3,List.length_replicate,List.append_assoc,List.take_append,List.length_replicate,List.take_of_length_le (by rw [List.length_replicate];omega),List.take_append,List.length_replicate,List.take_of_length_le (by rw [List.length_replicate];omega)]
 rw [show m+k - m - k=0 by omega,List.take_zero,List.append_nil,List.replicate_append_replicate]
theorem below_setCells {g : Nat} {w0 : World} (hg : w0.heap.size ≤ g) : ∀ (vs : List Value) (o : Nat) (w : World), Below w0.heap.size w0 w → Below w0.heap.size w0 (w.setCells g o vs)
 | [],_,_,h=>h
 | v :: r,o,w,h=>below_setCells hg r (o+1) _ (dM h hg)
set_option maxHeartbeats 8000000 in
set_option maxRecDepth 100000 in
theorem adH (x : Int) (n : Nat) (h1 : 1 ≤ n) (hn : n ≤ 1048576) (A : Option Addr) (c : Nat) (w : World) (hr : Kd.C (Kd.int .i64) w A 1 [x]) :
  Calls Try.prog 226 #[.slice A 1 c,.int .i64 n] w fun e w'=>∃ v,e=.returned v∧Kd.R (Kd.int .i64) 2 w' w.heap.size (fun _=>True) v (List.replicate n x)∧Below w.heap.size w w':=by
 obtain ⟨ad,e,hcell⟩:=Kd.bH hr 0 (by omega) (by simp)
 cases e
 have hmul:=fun w=>mul_one n (by omega) w
 have HM:=k0 hmul
 clear hmul
 have hmk:=adq (P:=Try.prog) 28 2 .i64 8 Try.underlying28 lH (by decide) n (by omega)
 have hneg:decide ((n:Int) < 0)=false:=decide_eq_false (by omega)
 have aa_:decide ((n:Int) > 9223372036854775807)=false:=decide_eq_false (by omega)
 have w1:=Mul64.wrapN n (by omega)
 obtain ⟨W0,amp⟩:∃ W0,W0=w.alloc (.cells (madeCells #[.int .i64 0] n) 2):=⟨_,rfl⟩
 have O3:W0.heap[w.heap.size]?=some (.cells (madeCells #[.int .i64 0] n) 2 (0,0)):=by rw [amp];exact heap_alloc_new w _
 have dB:xC x n 0 w.heap.size W0:=⟨_,O3,size_madeCells _ _,by simp⟩
 have I0:Below w.heap.size w W0:=by rw [amp];exact dA (Below.refl _ _) _
 have hsz:(Try.prog.info? 2).map (·.size)=some 1:=by
  obtain ⟨i0,rS,_,hs,_⟩:=info_parts lH
  rw [rS];simp [hs]
 have hsrc:W0.cell? ad=some (.int .i64 x):=by
  have h0:ad.add (0:Int).toNat=ad:=by cases ad;simp [Addr.add]
  have h:=(I0.cell (World.block_lt_of_cell? w _ hcell)).trans hcell
  rw [h0] at h
  exact h
 have Jl:∀ ty,(Builtin.copy_ #[28,28] ty #[.slice (some ⟨w.heap.size,0,none⟩) n n,.slice (some ad) 1 c]).run Try.prog W0=.ok (goInt 1) (W0.setCells w.heap.size 0 [.int .i64 x]):=fun ty=>by
  have h := run_copy_cells (P := Try.prog) W0 28 28 ty 2 w.heap.size 0 n n ad 1 c [.int .i64 x] Try.underlying28 hsz (by show 1 = Nat.min 1 n; simp only [Nat.min_def]; split <;> omega)
   (fun j v hj=>by
    obtain rfl:j=0:=by have:=(List.getElem?_eq_some_iff.1 hj).1;simpa using this
    simp at hj
    rw [← hj]
    simpa [Addr.add] using hsrc) (fun j hj=>by rw [Nat.zero_add];exact (DE dB j (by simp at hj;omega)).1) (fun j hj=>by rw [Nat.zero_add];exact (DE dB j (by simp at hj;omega)).2.1) (fun v hv=>by simp at hv;rw [hv];rfl)
  exact h
 have ek:=k0 (R8 (k:=1) dB (by omega))
 have kM:=k0 (below_setCells (g:=w.heap.size) (Nat.le_refl _) [.int .i64 x] 0 W0 I0)
 rw [amp] at Jl
 rw [amp] at ek kM
 clear amp O3 dB I0 hsrc W0
 have MM:=k0 hsz
 have ki:=k0 Jl
 clear hsz Jl
 go_enter Try.func226,Try.ntmps226
 go_wp2_with (first|(go_at_call 241;refine (HM.out _).mono ?_;rintro e w_ ⟨rfl,h_⟩;rw [h_];clear h_ w_)|(at_builtin;refine wpList_copy_runI _ rfl _ _ 28 28 rfl _ _ rfl rfl (ki.out _) ?_)|(simp only [ki.out];done)|(rw [ki.out]))
 generalize ot:(w.alloc (Obj.cells (madeCells #[Value.int IntKind.i64 0] n) 2)).setCells w.heap.size 0 [Value.int IntKind.i64 x]=W1
 have OW:xC x n 1 w.heap.size W1:=by rw [← ot];exact ek.out
 have B6:Below w.heap.size w W1:=by rw [← ot];exact kM.out
 clear ek kM ki ot HM hmk
 have ek:=k0 OW
 have kM:=k0 B6
 clear OW B6
 go_loopw [8] (fun v wr=>∃ m:Nat,1≤m∧m≤n∧v=.int .i64 m∧au (xC x n m w.heap.size wr)∧au (Below w.heap.size w wr)) (fun v _=>n - (intOf v).toNat)
 case atStart=>exact ⟨1,Nat.le_refl _,h1,rfl,ek,kM⟩
 case round =>
  obtain ⟨m,QB,hmn,rfl,HR,HB⟩:=hrel
  by_cases hlt:m < n
  case neg =>
   have hnm:m=n:=by omega
   subst hnm
   have hb:decide ((m:Int) < (m:Int))=false:=decide_eq_false (by omega)
   go_wp2
   go_ret
   obtain ⟨cur,e1,e2,e3⟩:=HR.out
   refine ⟨_,rfl,Kd.zR ⟨?_,.inr ⟨w.heap.size,m,cur,?_,Nat.le_refl _,e1,?_,?_,?_,?_⟩⟩ (fun _ _=>trivial),HB.out⟩
   ·simp [fl]
   ·simp
   ·rw [List.length_replicate];exact Nat.le_refl _
   ·unfold maxLen;omega
   ·omega
   ·rw [List.length_replicate,Nat.mul_one,e3];simp [fl]
  have hb:decide ((m:Int) < (n:Int))=true:=decide_eq_true (by omega)
  have al6:(0:Int)≤(m:Int):=by omega
  have yT:(m:Int)≤(n:Int):=by omega
  have hq3:¬ (n=m):=by omega
  have hq4:m≤n:=hmn
  obtain ⟨k,hk⟩:∃ k,k=Nat.min m (n - m):=⟨_,rfl⟩
  have yL:1≤k∧m+k≤n:=by rw [hk];simp only [Nat.min_def];split<;>omega
  have hkm:k≤m:=by rw [hk];simp only [Nat.min_def];split<;>omega
  have Pu:∀ ty,(Builtin.copy_ #[28,28] ty #[.slice (some ⟨w.heap.size,m,none⟩) (n - m) (n - m),.slice (some ⟨w.heap.size,0,none⟩) m n]).run Try.prog wr.drew=.ok (goInt k) (wr.drew.setCells w.heap.size m (List.replicate k (.int .i64 x))):=fun ty=>by
   have h := run_copy_cells (P := Try.prog) wr.drew 28 28 ty 2 w.heap.size m (n - m) (n - m) ⟨w.heap.size, 0, none⟩ m n (List.replicate k (.int .i64 x)) Try.underlying28 MM.out (by rw [List.length_replicate]; exact hk)
    (fun j v hj=>by
     have hj2:j < k:=by have:=(List.getElem?_eq_some_iff.1 hj).1;simpa using this
     rw [List.getElem?_replicate,if_pos hj2] at hj
     injection hj with hj
     rw [← hj]
     have h5:=(DE (Ga HR.out) j (by omega)).2.2 (by omega)
     rw [Addr.add_lit,Nat.zero_add]
     exact h5)
    (fun j hj=>(DE (Ga HR.out) (m+j) (by rw [List.length_replicate] at hj;omega)).1)
    (fun j hj=>(DE (Ga HR.out) (m+j) (by rw [List.length_replicate] at hj;omega)).2.1)
    (fun v hv=>by rw [List.eq_of_mem_replicate hv];rfl)
   rwa [List.length_replicate] at h
  have HC:=k0 Pu
  have rq:=k0 (R8 (k:=k) (Ga HR.out) yL.2)
  have fO:=k0 (below_setCells (g:=w.heap.size) (Nat.le_refl _) (List.replicate k (.int .i64 x)) m wr.drew (wE HB.out))
  have hw1:IntKind.i64.wrap ((m:Int)+(k:Int))=((m+k:Nat):Int):=by rw [IntKind.wrap_i64];omega
  clear Pu hk hlt HR HB ek kM MM
  have mixed:Try.prog.follows Departure.mixedOrders=true:=by kernel_rfl
  go_wp2
  go_region_law_o (refine step_copy_runI rfl _ _ 28 28 rfl _ _ (by simp [Act.eval,Act.put]) (by simp [Act.eval,Act.put]) (HC.out _) ?_)
  go_wp2
  go_simp
  go_roundw
  case rel=>exact ⟨m+k,by omega,yL.2,by omega,rq⟩
  case measure=>simp [intOf];omega
def wh.f (l0:List Int) (a1:Int):Option (List Int):=if l0.length=1∧1≤a1∧a1≤1048576 then some (List.replicate a1.toNat (rd l0 0)) else none
set_option maxHeartbeats 8000000 in
set_option maxRecDepth 100000 in
theorem wh.calls (A0 : Option Addr) (c0 : Nat) (l0 : List Int) (a1 : Int) (r : List Int) (w : World) (dB : Kd.C (Kd.int .i64) w A0 l0.length l0) (hc0 : l0.length ≤ c0) (h : wh.f l0 a1 = some r) :
  Calls Try.prog 226 #[.slice A0 l0.length c0,.int .i64 a1] w fun e w'=>∃ dK:Value,e=.returned (dK)∧Kd.R (Kd.int .i64) 2 w' w.heap.size (fun _=>True) dK r∧Below w.heap.size w w':=by
 unfold wh.f at h
 by_cases c2:l0.length=1∧1≤a1∧a1≤1048576
 case neg =>
  rw [if_neg c2] at h
  exact absurd h (by simp)
 rw [if_pos c2] at h
 obtain rfl:=Option.some.inj h
 obtain ⟨x,rfl⟩:=List.length_eq_one_iff.1 c2.1
 obtain ⟨n,rfl⟩:∃ n:Nat,a1=n:=⟨a1.toNat,by omega⟩
 exact adH x n (by omega) (by omega) A0 c0 w dB
end Go.Proofs.Ytoebojnhchocaaa.C
/- Set with little white space, by a program. -/
