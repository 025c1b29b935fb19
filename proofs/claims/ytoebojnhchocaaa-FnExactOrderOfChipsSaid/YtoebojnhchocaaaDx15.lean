/- The functions that one law reaches, each as a Lean function, and that Go's call comes to what it says. Condition of each: that the Lean function answers (is not none). -/
import Derived.Test.YtoebojnhchocaaaDx0
import Derived.Test.YtoebojnhchocaaaDx11
import Derived.Test.YtoebojnhchocaaaDx12
import Derived.Test.YtoebojnhchocaaaDx13
import Derived.Test.YtoebojnhchocaaaDx14
namespace Go.Proofs.Ytoebojnhchocaaa.D
open Go.RowKit Go.Proofs.bR.eC Go.Proofs.bR.je Go.Proofs.bR.jO
attribute [local go_sem] max2_int min2_int max_two min_two max_three min_three max_four min_four   -- for this text's walks alone
set_option linter.unusedVariables false
set_option linter.unusedSimpArgs false
/-! ### F224: function 224 -/
def wC.f (a0:Int) (a1:Int):Option (Int):=if a0 < 0 then (if a1=0 then (none) else (some (wrap64 (-(wrap64 (Int.tdiv (wrap64 ((wrap64 ((wrap64 (-a0))+a1)) - 1)) a1)))))) else (if a1=0 then (none) else (some (wrap64 (Int.tdiv a0 a1))))
set_option maxHeartbeats 8000000 in
set_option maxRecDepth 100000 in
theorem wC.calls (a0 : Int) (a1 : Int) (r : Int) (w : World) (h : wC.f a0 a1 = some r) :
  Calls Try.prog 224 #[.int .i64 a0,.int .i64 a1] w fun e w'=>e=.returned (.int .i64 r)∧bI w w':=by
 have H:(if a0 < 0 then (if a1=0 then (none) else (some (wrap64 (-(wrap64 (Int.tdiv (wrap64 ((wrap64 ((wrap64 (-a0))+a1)) - 1)) a1)))))) else (if a1=0 then (none) else (some (wrap64 (Int.tdiv a0 a1)))))=some r:=h
 clear h
 by_cases c3:a0 < 0
 case neg =>
  rw [if_neg c3] at H
  have gZ:decide (a0 < 0)=false:=decide_eq_false c3
  clear c3
  by_cases c5:a1=0
  case neg =>
   rw [if_neg c5] at H
   have alS:(a1 == 0)=false:=beq_eq_false_iff_ne.mpr c5
   have Jh:(a1 != 0)=true:=bne_iff_ne.mpr c5
   obtain rfl:=Option.some.inj H
   go_enter Try.func224,Try.ntmps224
   go_wp2
   go_ret
   exact ⟨by first|rfl|(simp;done)|(simp [*];done),by repeat (first|exact bI.refl _|apply bI.step)⟩
  rw [if_pos c5] at H
  exact absurd H (by simp)
 rw [if_pos c3] at H
 have gZ:=decide_eq_true c3
 clear c3
 by_cases c4:a1=0
 case neg =>
  rw [if_neg c4] at H
  have eD:(a1 == 0)=false:=beq_eq_false_iff_ne.mpr c4
  have l7:(a1 != 0)=true:=bne_iff_ne.mpr c4
  obtain rfl:=Option.some.inj H
  go_enter Try.func224,Try.ntmps224
  go_wp2
  go_ret
  exact ⟨by first|rfl|(simp;done)|(simp [*];done),by repeat (first|exact bI.refl _|apply bI.step)⟩
 rw [if_pos c4] at H
 exact absurd H (by simp)
-- NOT PRINTED: function 239 (slices_overlaps_int64)
/-! ### F250: function 250 -/
def iN.l0 : Nat → List Int → Int → Int → Option (List Int)
 | 0,_,_,_=>none
 | k+1,x0,x2,x3=>if x2 < x3 then (if 0≤x3 then (if x3 < (x0.length:Int) then (if 0≤x2 then (if x2 < (x0.length:Int) then (iN.l0 k ((x0.set (x2:Int).toNat (rd x0 x3)).set (x3:Int).toNat (rd x0 x2)) (wrap64 (x2+1)) (wrap64 (x3 - 1))) else (none)) else (none)) else (none)) else (none)) else (some x0)
def iN.f (k:Nat) (l0:List Int):Option (List Int):=iN.l0 k l0 0 (wrap64 ((l0.length:Int) - 1))
theorem iN.bU : ∀ k, (∀ y0 y1 y2, aj (iN.l0 k y0 y1 y2) (iN.l0 (k + 1) y0 y1 y2))
 | 0=>fun _ _ _ r h=>by simp [iN.l0] at h
 | k+1=>by
  have alg:=iN.bU k
  ·intro y0 y1 y2
   unfold iN.l0
   repeat' first
    | (with_reducible first|exact alg _ _ _|exact aj.refl _|exact aj.none _|refine aj.ite ?_ ?_|refine aj.bind ?_ (fun _=>?_))
    | exact alg _ _ _|exact aj.none _|refine aj.ite ?_ ?_|refine aj.bind ?_ (fun _=>?_)
theorem iN.mono:∀ a0 k,aj (iN.f k a0) (iN.f (k+1) a0):=by
 intro a0 k
 have alg:=iN.bU k
 unfold iN.f
 repeat' first
  | (with_reducible first|exact alg _ _ _|exact aj.refl _|exact aj.none _|refine aj.ite ?_ ?_|refine aj.bind ?_ (fun _=>?_))
  | exact alg _ _ _|exact aj.none _|refine aj.ite ?_ ?_|refine aj.bind ?_ (fun _=>?_)
def iN.T3:Bool × List (List Nat × List Nat):=(true,[([],[]),([],[]),([],[]),([],[]),([],[]),([],[]),([4,5],[4,5]),([6],[6]),([],[]),([],[]),([8,9],[8,9]),([10],[10]),([0,1,0,1,4,5,6,7,11],[0,1]),([12,7,0,1,4,5,6,7,11],[7,12]),([2,3,0,1,2,3,4,5,6,7,8,9,10,11,12,13],[2,3]),([14,11,13,0,1,2,3,4,5,6,7,8,9,10,11,12,13],[11,14])])
def iN.B3:List Nat:=[0,0,0,0,0,0,48,112,0,0,768,1792,4083,8179,16383,32767]
theorem iN.ae4:gv .any (opsOf Try.f250 3)=iN.T3:=by kernel_rfl
theorem iN.W5:mN iN.T3.2 iN.B3=true:=by kernel_rfl
set_option maxHeartbeats 8000000 in
set_option maxRecDepth 100000 in
theorem iN.calls (k : Nat) (wO : Nat → Prop) (G3 : Value) (l0 : List Int) (r : List Int) (w0 w : World) (hB : Below w0.heap.size w0 w) (aM : Kd.R (Kd.int .i64) 2 w w0.heap.size wO G3 l0) (h : iN.f k l0 = some r) :
  Calls Try.prog 250 #[G3] w fun e w'=>e=.returned (.tuple #[])∧Kd.R (Kd.int .i64) 2 w' w0.heap.size (fun k_=>(wO k_∨w.heap.size≤k_)) G3 r∧Below w0.heap.size w0 w'∧Kept w w' (fun k_=>wO k_):=by
 have Nx:=k0 (show Kd.R (Kd.int .i64) 2 w w0.heap.size (fun k_=>(wO k_∨w.heap.size≤k_)) G3 l0 from Kd.alq aM (fun k_ hk=>(.inl hk)))
 have HK:=k0 (Kept.refl w (fun k_=>wO k_))
 have HW0:=k0 hB.size
 have HB:=k0 hB
 clear hB
 have H:(iN.l0 k l0 0 (wrap64 ((l0.length:Int) - 1)))=some r:=h
 clear h
 have H':=k0 H
 clear H
 obtain ⟨Ub,Yd,YQ⟩:=Kd.eF Nx.out
 subst YQ
 go_enter Try.func250,Try.ntmps250
 go_wp2
 go_loopg [2,3] k (fun kq v2 v3 w'=>∃ (pX:List Int) (mh:Int) (bC:Int),v2=.int .i64 mh∧v3=.int .i64 bC∧au (iN.l0 kq pX mh bC=some r)∧au (kq≤k)∧au (Kd.R (Kd.int .i64) 2 w' w0.heap.size (fun k_=>(wO k_∨w.heap.size≤k_)) (.slice Ub l0.length Yd) pX)∧au (Kept w w' (fun k_=>wO k_))∧au (Below w0.heap.size w0 w'))
 case atStart=>exact ⟨(l0),(0),(wrap64 ((l0.length:Int) - 1)),rs,rs,H',⟨Nat.le_refl _⟩,⟨aR (Nx.out)⟩,⟨by repeat (first|(with_reducible first|exact HK.out|apply Kept.alloc|apply Kept.drewN|apply Kept.drew)|exact HK.out)⟩,⟨bl⟩⟩
 case round =>
  clear H'
  obtain ⟨pX,mh,bC,rfl,rfl,HA,alj,qP,HK,HB⟩:=hrel
  have amY:=(Kd.bx qP.out).1
  rw [amY] at qP
  (try simp only [amY])
  cases gk with
  | zero=>exact absurd HA.out (by simp [iN.l0])
  | succ k1 =>
   have H:=HA.out
   clear HA
   simp only [iN.l0] at H
   by_cases c3:mh < bC
   case neg =>
    rw [if_neg c3] at H
    have gZ:decide (mh < bC)=false:=decide_eq_false c3
    clear c3
    obtain rfl:=Option.some.inj H
    go_wp2
    first|go_end0|((try simp only [Exit.inBlock,Exit.then]);refine bodyPost_ret (results_none rfl _ _ _) rfl ?_)
    exact ⟨by first|rfl|(simp [bz,bA]<;>rfl)|(simp [*,bz,bA]<;>rfl),(by first|exact (aR qP.out)|(simp only [amY];exact (aR qP.out))),bl,by repeat (first|(with_reducible first|exact HK.out|apply Kept.alloc|apply Kept.drewN|apply Kept.drew)|exact HK.out)⟩
   rw [if_pos c3] at H
   have gZ:=decide_eq_true c3
   clear c3
   replace H:=iS H;obtain ⟨c4,H⟩:=H
   have eD:=decide_eq_true c4
   clear c4
   replace H:=iS H;obtain ⟨c5,H⟩:=H
   have alS:=decide_eq_true c5
   (try simp only [amY] at alS)
   clear c5
   replace H:=iS H;obtain ⟨c6,H⟩:=H
   have gB:=decide_eq_true c6
   clear c6
   replace H:=iS H;obtain ⟨c7,H⟩:=H
   have alJ:=decide_eq_true c7
   (try simp only [amY] at alJ)
   clear c7
   obtain ⟨TL,DS⟩:∃ y_:List Int,y_=(pX.set (mh:Int).toNat (rd pX bC)):=⟨_,rfl⟩
   replace H:(iN.l0 k1 (TL.set (bC:Int).toNat (rd pX mh)) (wrap64 (mh+1)) (wrap64 (bC - 1)))=some r:=by first|(rw [DS];with_reducible exact H)|(have ax:=(Option.bind_some _ _).symm.trans H;rw [DS];with_reducible exact ax)|(have ax:=(Option.bind_some _ _).symm.trans H;with_reducible exact ax)|with_reducible exact H|(rw [DS];exact H)|exact H
   have V0:=k0 DS
   clear DS
   obtain ⟨nW,jo⟩:∃ y_:List Int,y_=(TL.set (bC:Int).toNat (rd pX mh)):=⟨_,rfl⟩
   replace H:(iN.l0 k1 nW (wrap64 (mh+1)) (wrap64 (bC - 1)))=some r:=by first|(rw [jo];with_reducible exact H)|(have ax:=(Option.bind_some _ _).symm.trans H;rw [jo];with_reducible exact ax)|(have ax:=(Option.bind_some _ _).symm.trans H;with_reducible exact ax)|with_reducible exact H|(rw [jo];exact H)|exact H
   have uj:=k0 jo
   clear jo
   have H':=k0 H
   clear H
   try go_wp2
   replace qP:=k0 (Kd.bn qP.out);replace HK:=k0 (Kept.drew HK.out);replace HB:=k0 (cP HB.out)
   have eT:0≤(bC:Int):=oD
   have eU:bC < (pX.length:Int):=oD
   obtain ⟨qV,e101,pR⟩:=Kd.bJ (Kd.bx qP.out).2.2 bC eT eU
   cases e101
   replace eT:=eq_true eT
   replace eU:=eq_true eU
   have dX:0≤(mh:Int):=oD
   have dY:mh < (pX.length:Int):=oD
   obtain ⟨pG,e102,iw⟩:=Kd.bJ (Kd.bx qP.out).2.2 mh dX dY
   obtain rfl:qV=pG:=(by injection e102)
   replace dX:=eq_true dX
   replace dY:=eq_true dY
   have p8:0≤(mh:Int):=oD
   have q8:(mh:Int) < ((pX.length:Int):Int):=oD
   obtain ⟨FN,co8,Pe,PM,ZF,cl8,Nu⟩:=Kd.lp qP.out (by omega)
   (first|cases Pe|(injection Pe with bh dm di;(first|subst bh|(injection bh with bh;subst bh));subst di;clear dm))
   have M9:=k0 PM
   have UZ:=k0 Nu
   clear PM ZF Nu
   have Nw:=k0 (show (wO FN∨w.heap.size≤FN) from (qP.out.1 _ rfl))
   (first|simp only [add_plain] at pR|skip)
   (first|simp only [add_plain] at iw|skip)
   obtain ⟨acg,aa_⟩:=Kd.jB 0 qP.out (mh:Int) p8 q8
   replace p8:=eq_true p8
   replace q8:=eq_true q8
   have sx:=Kd.Ag qP.out (mh:Int) (rd pX bC)
   rw [← V0.out] at sx
   have Im:=k0 sx
   clear sx
   have p9:0≤(bC:Int):=oD
   have q9:(bC:Int) < ((pX.length:Int):Int):=oD
   obtain ⟨zi,KD⟩:=Kd.jB 0 Im.out (bC:Int) p9 q9
   replace p9:=eq_true p9
   replace q9:=eq_true q9
   have wJ:=Kd.Ag Im.out (bC:Int) (rd pX mh)
   rw [← uj.out] at wJ
   have ND:=k0 wJ
   clear wJ
   refine lU (n:=16) (S:=fun w'=>w'.cell? ⟨FN,(bC).toNat,none⟩=some (.int .i64 (rd pX bC))∧w'.cell? ⟨FN,(mh).toNat,none⟩=some (.int .i64 (rd pX mh))) (ds:=[13,15]) (ba 16 0) (by kernel_rfl) rfl rfl ⟨pR,iw⟩ (fun hHeld=>?_);refine pW iN.ae4 iN.W5 (fun ay cZ=>?_)
   generalize wr.drew=gw at qP HK HB UZ Im ND aa_ KD pR iw acg zi hHeld ⊢
   refine pu 0 (some 14) (ba 16 1) ay (h:=?_)
   refine pu 1 (some 15) (ba 16 3) ay (h:=?_)
   refine pu 2 (some 16) (ba 16 7) ay (h:=?_)
   refine pu 3 (some 17) (ba 16 15) ay (h:=?_)
   refine pu 4 (some 18) (ba 16 31) ay (h:=?_)
   refine pu 5 (some 19) (ba 16 63) ay (h:=?_)
   refine pu 6 (some 20) (ba 16 127) ay (h:=?_)
   refine pu 8 (some 22) (ba 16 383) ay (h:=?_)
   refine pu 9 (some 23) (ba 16 895) ay (h:=?_)
   refine pu 10 (some 24) (ba 16 1919) ay (h:=?_)
   refine ta 7 (some 21) (ba 16 2047) ay cZ hHeld (hy:=Or.inl ⟨by rfl,by rintro w' ⟨s0,s1⟩;go_simp;with_reducible rfl⟩) (h:=?_)
   refine ta 11 (some 25) (ba 16 4095) ay cZ hHeld (hy:=Or.inl ⟨by rfl,by rintro w' ⟨s0,s1⟩;go_simp;with_reducible rfl⟩) (h:=?_)
   refine pu 12 (some 26) (ba 16 8191) ay (h:=?_)
   refine qE (i:=13) (N:=none) (ba 16 16383) rfl rfl (kg ay.out (by kernel_rfl)) (by decide) (fun K hK=>?_)
   refine pV (w1:=?_) (by rfl) rfl ?_ ?_
   rotate_left;· go_simp;rfl
   refine hK.out _ _ ?_
   clear hK K
   refine pu 14 (some 27) (ba 16 32767) ay (h:=?_)
   refine qE (i:=15) (N:=none) (ba 16 65535) rfl rfl (kg ay.out (by kernel_rfl)) (by decide) (fun K hK=>?_)
   refine pV (w1:=?_) (by rfl) rfl ?_ ?_
   rotate_left;· go_simp;rfl
   refine hK.out _ _ ?_
   clear hK K
   refine lQ (pN ay.out (by kernel_rfl)) ?_
   try go_wp2
   (try simp only [← amY])
   go_roundg k1
   case measure=>have:=alj.out;omega
   case rel=>exact ⟨(nW),(wrap64 (mh+1)),(wrap64 (bC - 1)),rs,rs,H',⟨by have:=alj.out;omega⟩,⟨by (try simp only [amY]);(with_reducible repeat (first|apply Kd.bH|apply Kd.bL|apply Kd.bn));exact ND.out⟩,⟨by repeat (first|(with_reducible first|exact HK.out|apply Kept.alloc|apply Kept.drewN|apply Kept.drew|refine Kept.setCell ?_ Nw.out _|refine Kept.setCell ?_ Nw.out _)|exact HK.out)⟩,⟨by repeat (first|(with_reducible first|exact HB.out|apply dh|apply ek|apply cP|refine dJ ?_ M9.out|refine dJ ?_ M9.out)|exact HB.out)⟩⟩
-- NOT PRINTED: function 245 (slices_rotateLeft_int64)
-- NOT PRINTED: function 240 (slices_rotateRight_int64)
-- NOT PRINTED: function 225 (slices_Insert_int64_int64)
/-! ### F183: function 183 -/
/- of F222.f -/
def qD (l:List Int) (i y:Int):List Int:=l.take i.toNat ++ y :: l.drop i.toNat
set_option maxHeartbeats 8000000 in
set_option maxRecDepth 100000 in
theorem acC (b n c i vb : Nat) (cs : List Value) (y : Value) (w : World) (hi : i < n) (hroom : n + 1 ≤ c) (hc63 : c ≤ 9223372036854775807) (hvb : vb ≠ b)
  (hcl:cs.length=n)
  (hcs:∀ j v,cs[j]?=some v→w.cell? ⟨b,j,none⟩=some v) (hsp:∀ j,j < n+1→(w.cell? ⟨b,j,none⟩).isSome=true) (hfz:∀ j,j < n+1→w.frozen? ⟨b,j,none⟩=false)
  (hvs:w.cell? ⟨vb,0,none⟩=some y) (h1c:∀ v ∈ cs,v.oneCell'=true) (h1v:y.oneCell'=true)
  (tA tB:TypeId) (kA kB:Nat) (hsa:w.shape? vb=some (tA,kA)) (hsb:w.shape? b=some (tB,kB)) (hkB:kB ≠ 0) (hfa:w.frozen? ⟨vb,0,none⟩=false) (hfe:w.frozen? ⟨vb,kA,none⟩=false) :
  Calls Try.prog 225 #[.slice (some ⟨b,0,none⟩) n c,.int .i64 i,.slice (some ⟨vb,0,none⟩) 1 1] w fun e w' =>
   e=.returned (.slice (some ⟨b,0,none⟩) (n+1) c)∧w'=(w.drew.setCells b (i+1) (cs.drop i)).setCells b i [y]:=by
 have tH:¬ ((i:Int)=(n:Int)):=by omega
 have hsz:(Try.prog.info? 2).map (·.size)=some 1:=by
  obtain ⟨i0,r7,_,hs,_⟩:=info_parts alU
  rw [r7];simp [hs]
 have aeG:∀ w,(Go.sizeOf 2).run Try.prog w=.ok 1 w:=fun w=>by first|rfl|(go_simp;done)
 have hov:∀ lb cb,(callFunc 239 #[.slice (some ⟨vb,0,none⟩) 1 1,.slice (some ⟨b,i+1,none⟩) lb cb]).run Try.prog w=.ok (.value (.bool false)) w:=fun lb cb=>by
  rw [run_callFunc_extern Try.func239 (by kernel_rfl) (by kernel_rfl) (by kernel_rfl) (e := Extern.SlicesOverlaps.overlaps #[28, 28] #[4]) (by kernel_rfl),
   Lib.run_overlaps_apart w 28 4 2 Try.underlying28 1 aeG ⟨vb,0,none⟩ ⟨b,i+1,none⟩ 1 1 lb cb hvb tA tB kA kB hsa hsb hkB hfa hfe]
  rfl
 have hdl:(cs.drop i).length=n - i:=by rw [List.length_drop,hcl]
 have mixed:Try.prog.follows Departure.mixedOrders=true:=by kernel_rfl
 have hw1:IntKind.i64.wrap ((i:Int)+1)=(i:Int)+1:=by rw [IntKind.wrap_i64];omega
 have hw2:IntKind.i64.wrap ((n:Int)+1)=(n:Int)+1:=by rw [IntKind.wrap_i64];omega
 have hgt:decide ((c:Int) < (n:Int)+1)=false:=decide_eq_false (by omega)
 have hb1:(0:Int)≤(i:Int)+1:=by omega
 have hin:i≤n:=by omega
 have htn:((i:Int)+1).toNat=i+1:=by omega
 have htm:((n:Int)+1).toNat=n+1:=by omega
 have hb2:¬ (c=i+1):=by omega
 have hb3:(i:Int)≤(n:Int)+1:=by omega
 have hb4:¬ (c=i):=by omega
 have hb5:(i:Int)+1≤(n:Int)+1:=by omega
 have hb6:(n:Int)+1≤(c:Int):=by omega
 have hb7:(0:Int)≤(n:Int)+1:=by omega
 have hb8:i+1≤n+1:=by omega
 have QF:∀ ty dc sc,(Builtin.copy_ #[28,28] ty #[.slice (some ⟨b,i+1,none⟩) (n - i) dc,.slice (some ⟨b,i,none⟩) (n+1 - i) sc]).run Try.prog w.drew=.ok (goInt (cs.drop i).length) (w.drew.setCells b (i+1) (cs.drop i)):=fun ty dc sc =>
  run_copy_cells w.drew _ _ ty 2 b (i + 1) (n - i) dc ⟨b, i, none⟩ (n + 1 - i) sc (cs.drop i) Try.underlying28 hsz (by rw [hdl]; simp only [Nat.min_def]; split <;> omega)
   (fun j v hj=>by rw [Addr.add_lit];exact hcs (i+j) v (by rwa [List.getElem?_drop] at hj))
   (fun j hj=>hsp _ (by rw [hdl] at hj;omega)) (fun j hj=>hfz _ (by rw [hdl] at hj;omega)) (fun v hv=>h1c v (List.mem_of_mem_drop hv))
 obtain ⟨W1,ow⟩:∃ W1,W1=w.drew.setCells b (i+1) (cs.drop i):=⟨_,rfl⟩
 have abZ:∀ k,k < n+1→(W1.cell? ⟨b,k,none⟩).isSome=true:=fun k hk=>by
  rw [ow]
  exact isSome_setCells b (cs.drop i) (i+1) w.drew (fun j hj=>hsp _ (by rw [hdl] at hj;omega)) k (hsp k hk)
 have Ko:∀ (W:World),(∀ x,W.cell? x=W1.cell? x)→(∀ x,W.frozen? x=W1.frozen? x)→∀ ty dc,(Builtin.copy_ #[28,28] ty #[.slice (some ⟨b,i,none⟩) (n+1 - i) dc,.slice (some ⟨vb,0,none⟩) 1 1]).run Try.prog W=.ok (goInt 1) (W.setCells b i [y]):=fun W xe CW ty dc =>
  run_copy_cells W _ _ ty 2 b i (n + 1 - i) dc ⟨vb, 0, none⟩ 1 1 [y] Try.underlying28 hsz (by show 1 = _; simp only [Nat.min_def]; split <;> omega)
   (fun j v hj=>by
    obtain rfl:j=0:=by have:=(List.getElem?_eq_some_iff.1 hj).1;simpa using this
    simp at hj
    rw [Addr.add_lit,xe,ow,World.cell?_setCells_out b _ _ _ _ (fun h _=>absurd h hvb),← hj]
    exact hvs)
   (fun j hj=>by rw [xe];exact abZ _ (by simp at hj;omega)) (fun j hj=>by rw [CW,ow,World.frozen?_setCells];exact hfz _ (by simp at hj;omega)) (fun v hv=>by simp at hv;rw [hv];exact h1v)
 rw [← ow] at QF
 go_enter Try.func225,Try.ntmps225
 go_wp2_with (simp only [hov])
 go_region_law_o (refine step_copy_runI rfl _ _ 28 28 rfl _ _ (by simp [Act.eval,Act.put]) (by simp [Act.eval,Act.put]) (QF _ _ _) ?_)
 go_wp2_with (first|(simp only [Ko _ (fun _=>rfl) (fun _=>rfl)];done)|(rw [Ko _ (fun _=>rfl) (fun _=>rfl)])|(at_builtin;refine wpList_copy_runI _ rfl _ _ 28 28 rfl _ _ rfl rfl (Ko _ (fun _=>rfl) (fun _=>rfl) _ _) ?_))
 go_ret
 first|exact ⟨rfl,rfl⟩|exact ⟨rfl,by rw [ow]⟩
set_option maxHeartbeats 8000000 in
set_option maxRecDepth 100000 in
theorem acB (b n c i vb : Nat) (cs : List Value) (y : Value) (w : World) (hi : i < n) (hnc : n ≤ c) (hroom : c < n + 1) (hbig : (n + 1) * 8 ≤ 140737488355328)
  (hcl:cs.length=n) (hcs:∀ j v,cs[j]?=some v→w.cell? ⟨b,j,none⟩=some v) (hvs:w.cell? ⟨vb,0,none⟩=some y) (h1c:∀ v ∈ cs,v.oneCell'=true) (h1v:y.oneCell'=true) :
  Calls Try.prog 225 #[.slice (some ⟨b,0,none⟩) n c,.int .i64 i,.slice (some ⟨vb,0,none⟩) 1 1] w fun e w' =>
   e=.returned (.slice (some ⟨w.heap.size,0,none⟩) (n+1) (grownCap w (n+1) c 2)) ∧
   w'=(((w.alloc (.cells ((cs.take i).toArray ++ Builtin.zeroCells (Value.int .i64 0).cells (n+1 - i) ++ Builtin.zeroCells (Value.int .i64 0).cells (grownCap w (n+1) c 2 - (n+1))) 2)).drew.setCells w.heap.size i [y]).drew).setCells w.heap.size (i+1) (cs.drop i):=by
 obtain ⟨i0,r7,amu,hzs,R2⟩:=info_parts alU
 have mixed:Try.prog.follows Departure.mixedOrders=true:=by kernel_rfl
 have tH:¬ ((i:Int)=(n:Int)):=by omega
 have hgt:decide ((c:Int) < (n:Int)+1)=true:=decide_eq_true (by omega)
 have hsz:(Try.prog.info? 2).map (·.size)=some 1:=by rw [r7];simp [hzs]
 have hbw:b < w.heap.size:=block_lt_of_cell (hcs 0 _ (List.getElem?_eq_getElem (by omega)))
 have K1:vb < w.heap.size:=block_lt_of_cell hvs
 have hkk:(n:Int)+1 - (i:Int)=((n+1 - i:Nat):Int):=by omega
 have hik:i+(n+1 - i)=n+1:=by omega
 have hold:(Builtin.firstCells i0.size i (.slice (some ⟨b,0,none⟩) i c)).run Try.prog w.drew=.ok (cs.take i).toArray w.drew:=by
  rw [hzs]
  exact run_firstCells_some w.drew 1 i ⟨b,0,none⟩ i c (cs.take i) (by rw [List.length_take];omega) (fun j v hj=>by
   rw [Addr.add_lit,Nat.zero_add]
   rw [List.getElem?_take] at hj
   split at hj
   ·exact hcs j v hj
   ·cases hj)
 have Dx : ∀ ty, (Builtin.append_ #[28, 3] ty #[.slice (some ⟨b, 0, none⟩) i c, .int .i64 ((n : Int) + 1 - (i : Int))]).run Try.prog w =
   .ok (.slice (some ⟨w.heap.size,0,none⟩) (n+1) (grownCap w (n+1) c 2)) (w.drew.alloc (.cells ((cs.take i).toArray ++ Builtin.zeroCells (Value.int .i64 0).cells (n+1 - i) ++ Builtin.zeroCells (Value.int .i64 0).cells (grownCap w (n+1) c 2 - (n+1))) 2)):=fun ty=>by
  have h:=Lib.run_append_grow_zeros w 28 3 ty 2 i0 _ .i64 .i64 Try.underlying28 Try.underlying3 r7 amu (some ⟨b,0,none⟩) i c (cs.take i) hold (n+1 - i) (by omega) (by omega) (by omega) (by omega) (by rw [R2];omega) (by rw [R2,hik];exact growslice_fits hroom hbig)
  rw [hik] at h
  rw [hkk]
  exact h
 obtain ⟨G,hG⟩:∃ G,G=grownCap w (n+1) c 2:=⟨_,rfl⟩
 obtain ⟨ROW,yI⟩:∃ ROW:Array Value,ROW=(cs.take i).toArray ++ Builtin.zeroCells (Value.int .i64 0).cells (n+1 - i) ++ Builtin.zeroCells (Value.int .i64 0).cells (G - (n+1)):=⟨_,rfl⟩
 rw [← hG] at Dx ⊢
 rw [← yI] at Dx ⊢
 have hRl:n+1≤ROW.size:=by
  rw [yI]
  simp [Builtin.zeroCells,Value.cells]
  omega
 obtain ⟨W1,ow⟩:∃ W1,W1=w.drew.alloc (.cells ROW 2):=⟨_,rfl⟩
 rw [← ow] at Dx
 have hN:∀ j,j < n+1→(W1.cell? ⟨w.heap.size,j,none⟩).isSome=true:=fun j hj=>by
  rw [ow,World.cell?_alloc_at (w:=w.drew) ROW _ w.heap.size j rfl,Array.getElem?_eq_getElem (by omega)];rfl
 have P9:∀ j,W1.frozen? ⟨w.heap.size,j,none⟩=false:=fun j=>by rw [ow];exact World.frozen?_alloc_at (w:=w.drew) ROW _ w.heap.size j rfl
 have hOb:∀ j v,w.cell? ⟨b,j,none⟩=some v→W1.cell? ⟨b,j,none⟩=some v:=fun j v h=>by rw [ow,World.cell?_alloc_past (w:=w.drew) _ b j hbw];exact h
 have hOv:∀ j v,w.cell? ⟨vb,j,none⟩=some v→W1.cell? ⟨vb,j,none⟩=some v:=fun j v h=>by rw [ow,World.cell?_alloc_past (w:=w.drew) _ vb j K1];exact h
 have hdl:(cs.drop i).length=n - i:=by rw [List.length_drop,hcl]
 have QG:∀ (W:World),(∀ x,W.cell? x=W1.cell? x)→(∀ x,W.frozen? x=W1.frozen? x)→∀ ty dc,(Builtin.copy_ #[28,28] ty #[.slice (some ⟨w.heap.size,i,none⟩) (n+1 - i) dc,.slice (some ⟨vb,0,none⟩) 1 1]).run Try.prog W=.ok (goInt 1) (W.setCells w.heap.size i [y]):=fun W xe CW ty dc =>
  run_copy_cells W _ _ ty 2 w.heap.size i (n + 1 - i) dc ⟨vb, 0, none⟩ 1 1 [y] Try.underlying28 hsz (by show 1 = _; simp only [Nat.min_def]; split <;> omega)
   (fun j v hj=>by
    obtain rfl:j=0:=by have:=(List.getElem?_eq_some_iff.1 hj).1;simpa using this
    simp at hj
    rw [Addr.add_lit,xe,← hj];exact hOv _ _ hvs)
   (fun j hj=>by rw [xe];exact hN _ (by simp at hj;omega)) (fun j hj=>by rw [CW];exact P9 _) (fun v hv=>by simp at hv;rw [hv];exact h1v)
 have hGn:n+1≤G:=by rw [hG];exact grownCap_ge w _ _ _
 have hG63:G≤9223372036854775807:=by
  have:=grownCap_le_maxLen w (n+1) c 2 (by unfold maxLen;omega)
  rw [← hG] at this
  unfold maxLen at this
  omega
 have hGi:¬ (G=i):=by omega
 have ahp:¬ (G=i+1):=by omega
 have hci:¬ (c=i):=by omega
 have hbN:b ≠ w.heap.size:=by omega
 have aaC:∀ (W:World),(∀ x,W.cell? x=(W1.setCells w.heap.size i [y]).cell? x)→(∀ x,W.frozen? x=(W1.setCells w.heap.size i [y]).frozen? x)→∀ ty dc sc,(Builtin.copy_ #[28,28] ty #[.slice (some ⟨w.heap.size,i+1,none⟩) (n - i) dc,.slice (some ⟨b,i,none⟩) (n - i) sc]).run Try.prog W=.ok (goInt (cs.drop i).length) (W.setCells w.heap.size (i+1) (cs.drop i)):=fun W xe CW ty dc sc =>
  run_copy_cells W _ _ ty 2 w.heap.size (i + 1) (n - i) dc ⟨b, i, none⟩ (n - i) sc (cs.drop i) Try.underlying28 hsz (by rw [hdl]; simp only [Nat.min_def]; split <;> omega)
   (fun j v hj=>by
    rw [Addr.add_lit,xe,World.cell?_setCells_out _ _ _ _ _ (fun h _=>absurd h hbN)]
    exact hOb _ v (hcs (i+j) v (by rwa [List.getElem?_drop] at hj)))
   (fun j hj=>by rw [xe];exact isSome_setCells _ [y] i W1 (fun t ht=>hN _ (by simp at ht;omega)) _ (hN _ (by rw [hdl] at hj;omega)))
   (fun j hj=>by rw [CW,World.frozen?_setCells];exact P9 _) (fun v hv=>h1c v (List.mem_of_mem_drop hv))
 subst ow
 have AQ:∀ x,((w.alloc (.cells ROW 2)).drew).cell? x=(w.drew.alloc (.cells ROW 2)).cell? x:=fun x=>rfl
 have FP:∀ x,((w.alloc (.cells ROW 2)).drew).frozen? x=(w.drew.alloc (.cells ROW 2)).frozen? x:=fun x=>rfl
 have ZL:∀ x,(((w.alloc (.cells ROW 2)).drew.setCells w.heap.size i [y]).drew).cell? x=((w.drew.alloc (.cells ROW 2)).setCells w.heap.size i [y]).cell? x:=fun x=>rfl
 have ZM:∀ x,(((w.alloc (.cells ROW 2)).drew.setCells w.heap.size i [y]).drew).frozen? x=((w.drew.alloc (.cells ROW 2)).setCells w.heap.size i [y]).frozen? x:=fun x=>rfl
 have hw1:IntKind.i64.wrap ((i:Int)+1)=(i:Int)+1:=by rw [IntKind.wrap_i64];omega
 have hw2:IntKind.i64.wrap ((n:Int)+1)=(n:Int)+1:=by rw [IntKind.wrap_i64];omega
 have hw3:IntKind.i64.wrap ((n:Int)+1 - (i:Int))=(n:Int)+1 - (i:Int):=by rw [IntKind.wrap_i64];omega
 have hb1:(0:Int)≤(i:Int)+1:=by omega
 have hin:i≤n:=by omega
 have hic:i≤c:=by omega
 have htn:((i:Int)+1).toNat=i+1:=by omega
 have hb3:(i:Int)≤(n:Int):=by omega
 have hb4:(i:Int)≤(n:Int)+1:=by omega
 have hb5:(i:Int)+1≤(n:Int)+1:=by omega
 clear hkk hik hold yI hG hRl
 go_enter Try.func225,Try.ntmps225
 go_wp2_with (first
  | (at_builtin;refine Lib.wpList_append_run _ rfl _ _ _ _ rfl _ _ rfl rfl _ _ (Dx _) ?_)
  | (rw [Dx])
  | (rw [QG _ AQ FP])
  | (at_builtin;refine wpList_copy_runI _ rfl _ _ 28 28 rfl _ _ rfl rfl (QG _ AQ FP _ _) ?_))
 go_region_law_o (refine step_copy_runI rfl _ _ 28 28 rfl (.slice (some ⟨w.heap.size,i+1,none⟩) (n - i) (G - (i+1))) (.slice (some ⟨b,i,none⟩) (n - i) (c - i)) (by simp [Act.eval,Act.put]) (by simp [Act.eval,Act.put]) (aaC _ ZL ZM 3 (G - (i+1)) (c - i)) ?_)
 go_wp2
 go_ret
 exact ⟨rfl,rfl⟩
theorem CP (g : Nat) : ∀ (vs : List Value) (o : Nat) (w : World), w.grownBy (w.setCells g o vs) (some g)
 | [],_,w=>⟨rfl,rfl,rfl,Nat.le_refl _,fun _ _ _=>rfl⟩
 | v :: r,o,w=>World.grownBy.trans (b:=w.setCell ⟨g,o,none⟩ v) ⟨rfl,rfl,rfl,by simp [World.setCell],fun k _ hk=>Below.heap_setCell w ⟨g,o,none⟩ v k (fun he=>hk (by rw [he]))⟩ (CP g r (o+1) _)
theorem J2 (w:World) (r:Option Nat):w.grownBy w.drew r:=⟨rfl,rfl,rfl,Nat.le_refl _,fun _ _ _=>rfl⟩
theorem FO (w:World) (o:Obj) (r:Option Nat):w.grownBy (w.alloc o) r:=⟨rfl,rfl,rfl,by unfold World.alloc;simp,fun k hk _=>by unfold World.alloc;simp [Array.getElem?_push,Nat.ne_of_lt hk]⟩
theorem R3 {W : World} {g k n : Nat} {cur : Array Value} {cs : List Value} {y : Value} (h : W.heap[g]? = some (.cells cur 2 (0, 0))) (hk : k ≤ n) (hcl : cs.length = n) (hs : n + 1 ≤ cur.size) (ht : cur.toList.take k = cs.take k) :
  (∃ c2,((W.setCells g (k+1) (cs.drop k)).setCells g k [y]).heap[g]?=some (.cells c2 2 (0,0))∧c2.size=cur.size∧c2.toList.take (n+1)=cs.take k ++ y :: cs.drop k) ∧
  (∃ c2,((W.setCells g k [y]).drew.setCells g (k+1) (cs.drop k)).heap[g]?=some (.cells c2 2 (0,0))∧c2.size=cur.size∧c2.toList.take (n+1)=cs.take k ++ y :: cs.drop k):=by
 have hd:(cs.drop k).length=n - k:=by rw [List.length_drop,hcl]
 have hlt:(cs.take k).length=k:=by rw [List.length_take];omega
 have hct:(cur.toList.take k).length=k:=by rw [ht];exact hlt
 constructor
 ·obtain ⟨c1, e1, e2, e3⟩ := uP (cs.drop k) (k + 1) W cur h (by rw [hd]; omega)
  obtain ⟨c2,f1,f2,f3⟩:=uP [y] k _ c1 e1 (by simp;omega)
  refine ⟨c2,f1,by omega,?_⟩
  have g1:c1.toList.take k=cs.take k:=by
   rw [e3,List.append_assoc,List.take_append,List.take_take,Nat.min_eq_left (by omega),ht]
   have:(cur.toList.take (k+1)).length=k+1:=by rw [List.length_take,Array.length_toList];omega
   rw [this,show k - (k+1)=0 by omega,List.take_zero,List.append_nil]
  have g2:c1.toList.drop (k+1)=cs.drop k ++ cur.toList.drop (k+1+(n - k)):=by
   have:(cur.toList.take (k+1)).length=k+1:=by rw [List.length_take,Array.length_toList];omega
   rw [e3,List.append_assoc,List.drop_append,List.drop_of_length_le (by omega),this,Nat.sub_self,List.drop_zero,List.nil_append,hd]
  have g3:cs.take k ++ [y] ++ (cs.drop k ++ cur.toList.drop (k+1+(n - k)))=(cs.take k ++ y :: cs.drop k) ++ cur.toList.drop (k+1+(n - k)):=by simp
  rw [f3,g1,List.length_singleton,g2,g3]
  exact List.take_left' (by rw [List.length_append,List.length_cons,hlt,hd];omega)
 ·obtain ⟨c1, e1, e2, e3⟩ := uP [y] k W cur h (by simp; omega)
  have YH:(W.setCells g k [y]).drew.heap[g]?=some (.cells c1 2 (0,0)):=e1
  obtain ⟨c2,f1,f2,f3⟩:=uP (cs.drop k) (k+1) _ c1 YH (by rw [hd];omega)
  refine ⟨c2,f1,by omega,?_⟩
  have g1:c1.toList.take (k+1)=cs.take k ++ [y]:=by
   rw [e3,ht,List.length_singleton,List.take_append,List.take_of_length_le (by simp;omega)]
   rw [List.length_append,hlt,List.length_singleton,Nat.sub_self,List.take_zero,List.append_nil]
  have g3:∀ Z,cs.take k ++ [y] ++ cs.drop k ++ Z=(cs.take k ++ y :: cs.drop k) ++ Z:=fun Z=>by simp
  rw [f3,g1,g3]
  exact List.take_left' (by rw [List.length_append,List.length_cons,hlt,hd];omega)
set_option maxHeartbeats 8000000 in
set_option maxRecDepth 100000 in
theorem acA (y : Int) (l0 : List Int) (i : Int) (W w0 : World) (b : Nat) (ok : Nat → Prop) (V : Value) (hR : Kd.R (Kd.int .i64) 2 W b ok V l0) (hok : ∀ k, W.heap.size ≤ k → ok k) (r7 : 0 ≤ i) (hi : i ≤ (l0.length : Int)) (hB : Below b w0 W) (hb : b ≤ W.heap.size) (hL : l0.length < 17592186044416) :
  Calls Try.prog 225 #[V,.int .i64 i,.slice (some ⟨W.heap.size,0,none⟩) 1 1] (W.alloc (.cells #[.int .i64 y] 2)) fun e w'=>∃ v,e=.returned v∧Kd.R (Kd.int .i64) 2 w' b ok v (qD l0 i y)∧Below b w0 w'∧W.grownBy w' V.ownBlock∧(v.ownBlock=V.ownBlock∨∃ k,v.ownBlock=some k∧W.heap.size≤k):=by
 obtain ⟨k,rfl⟩:∃ k:Nat,i=k:=⟨i.toNat,by omega⟩
 have hk:k≤l0.length:=by omega
 have CR:Below b w0 (W.alloc (.cells #[.int .i64 y] 2)):=hB.alloc hb _
 have CS:=FO W (.cells #[.int .i64 y] 2) V.ownBlock
 have hsize:(W.alloc (.cells #[.int .i64 y] 2)).heap.size=W.heap.size+1:=by unfold World.alloc;exact Array.size_push _
 have hnew:(W.alloc (.cells #[.int .i64 y] 2)).heap[W.heap.size]?=some (.cells #[.int .i64 y] 2 (0,0)):=heap_alloc_new W _
 by_cases hend:k=l0.length
 case neg =>
  have hlt:k < l0.length:=by omega
  obtain ⟨_,⟨_,h0⟩|⟨g,c,cur,rfl,anU,anV,hnc,rV,hcs,hct⟩⟩:=Kd.Lv hR
  ·omega
  have hgW:g < W.heap.size:=by
   rcases Nat.lt_or_ge g W.heap.size with h|h
   ·exact h
   ·rw [Array.getElem?_eq_none h] at anV;exact absurd anV (by simp)
  have Dh:(W.alloc (.cells #[.int .i64 y] 2)).heap[g]?=some (.cells cur 2 (0,0)):=by
   rw [← anV];exact (FO W (.cells #[.int .i64 y] 2) none).block g hgW (by simp)
  have hcl:(fl (Value.int .i64) l0).length=l0.length:=by simp [fl]
  rw [Nat.mul_one] at hcs hct
  have hcell:∀ j v,(fl (Value.int .i64) l0)[j]?=some v→(W.alloc (.cells #[.int .i64 y] 2)).cell? ⟨g,j,none⟩=some v:=fun j v hj=>by
   have hj2:j < l0.length:=by have:=(List.getElem?_eq_some_iff.1 hj).1;omega
   rw [av Dh j,← hj,← hct,List.getElem?_take,if_pos hj2,Array.getElem?_toList]
  have hfz:=fun j=>aD Dh j
  have RS:(W.alloc (.cells #[.int .i64 y] 2)).cell? ⟨W.heap.size,0,none⟩=some (.int .i64 y):=by rw [av hnew 0];rfl
  have h1c:∀ v ∈ fl (Value.int .i64) l0,v.oneCell'=true:=fun v hv=>by
   obtain ⟨x,_,rfl⟩:=List.mem_map.1 hv
   rfl
  have RP:∀ c2:Array Value,c2.toList.take (l0.length+1)=(fl (Value.int .i64) l0).take k ++ .int .i64 y :: (fl (Value.int .i64) l0).drop k→c2.toList.take ((qD l0 (k:Int) y).length * 1)=fl (Value.int .i64) (qD l0 (k:Int) y):=fun c2 h=>by
   have e1:(qD l0 (k:Int) y).length=l0.length+1:=by
    unfold qD
    rw [Int.toNat_natCast,List.length_append,List.length_cons,List.length_take,List.length_drop];omega
   rw [e1,Nat.mul_one,h]
   unfold qD fl
   rw [Int.toNat_natCast,List.map_append,List.map_cons,List.map_take,List.map_drop]
  have hil:(qD l0 (k:Int) y).length=l0.length+1:=by
   unfold qD
   rw [Int.toNat_natCast,List.length_append,List.length_cons,List.length_take,List.length_drop];omega
  have hkc:(fl (Value.int .i64) l0).take k=cur.toList.take k:=by rw [← hct,List.take_take,Nat.min_eq_left (by omega)]
  by_cases hroom:l0.length+1≤c
  case neg =>
   have uz:c=l0.length:=by omega
   refine (acB g l0.length c k W.heap.size (fl (Value.int .i64) l0) (.int .i64 y) _ hlt hnc (by omega) (by omega) hcl hcell RS h1c rfl).mono ?_
   rintro e w' ⟨rfl,rfl⟩
   generalize ow:W.alloc (.cells #[.int .i64 y] 2)=W1 at *
   obtain ⟨G,hG⟩:∃ G,G=grownCap W1 (l0.length+1) c 2:=⟨_,rfl⟩
   rw [← hG]
   have hGn:l0.length+1≤G:=by rw [hG];exact grownCap_ge W1 _ _ _
   have ZO:G≤maxLen:=by
    have:=grownCap_le_maxLen W1 (l0.length+1) c 2 (by unfold maxLen;omega)
    rw [← hG] at this
    exact this
   obtain ⟨ROW,yI⟩:∃ ROW:Array Value,ROW=((fl (Value.int .i64) l0).take k).toArray ++ Builtin.zeroCells (Value.int .i64 0).cells (l0.length+1 - k) ++ Builtin.zeroCells (Value.int .i64 0).cells (G - (l0.length+1)):=⟨_,rfl⟩
   rw [← yI]
   have RA:((fl (Value.int .i64) l0).take k).length=k:=by rw [List.length_take];omega
   have hRs:ROW.size=G:=by
    rw [yI]
    simp [Builtin.zeroCells,Value.cells,RA]
    omega
   have hRt:ROW.toList.take k=(fl (Value.int .i64) l0).take k:=by
    rw [yI,Array.toList_append,Array.toList_append,List.append_assoc]
    exact List.take_left' RA
   obtain ⟨_,c2,f1,f2,f3⟩:=R3 (W:=(W1.alloc (.cells ROW 2)).drew) (g:=W1.heap.size) (k:=k) (n:=l0.length) (cur:=ROW) (cs:=fl (Value.int .i64) l0) (y:=.int .i64 y) (heap_alloc_new W1 _) hk hcl (by omega) hRt
   have hA:∀ (r:Option Nat),W1.grownBy (W1.alloc (.cells ROW 2)) r:=fun r=>FO W1 _ r
   have hbig:(W1.alloc (.cells ROW 2)).grownBy ((((W1.alloc (.cells ROW 2)).drew.setCells W1.heap.size k [.int .i64 y]).drew).setCells W1.heap.size (k+1) ((fl (Value.int .i64) l0).drop k)) (some W1.heap.size) :=
    World.grownBy.trans (J2 _ _) (World.grownBy.trans (CP _ _ _ _) (World.grownBy.trans (J2 _ _) (CP _ _ _ _)))
   have PW:W.grownBy ((((W1.alloc (.cells ROW 2)).drew.setCells W1.heap.size k [.int .i64 y]).drew).setCells W1.heap.size (k+1) ((fl (Value.int .i64) l0).drop k)) (some g):=by
    have h0:=World.grownBy.trans CS (hA (some g))
    refine ⟨hbig.os.trans h0.os,hbig.tape.trans h0.tape,hbig.output.trans h0.output,Nat.le_trans h0.size hbig.size,fun q hq hne=>?_⟩
    rw [hbig.block q (by have:=h0.size;omega) (by intro e;injection e with e;omega)]
    exact h0.block q hq hne
   refine ⟨_,rfl,Kd.Af ⟨by simp [fl],.inr ⟨W1.heap.size,G,c2,by rw [hil],by omega,f1,by rw [hil];exact hGn,ZO,by omega,RP c2 f3⟩⟩ (fun k_ j7=>?_),hB.grown PW hb (fun k_ j7=>by injection j7 with j7;omega),PW,.inr ⟨W1.heap.size,rfl,by omega⟩⟩
   refine hok k_ ?_
   have hk2:W1.heap.size=k_:=by simpa [Value.ownBlock] using j7
   omega
  refine (acC g l0.length c k W.heap.size (fl (Value.int .i64) l0) (.int .i64 y) _ hlt hroom (by unfold maxLen at rV;omega) (by omega) hcl hcell (fun j hj=>?_) (fun j _=>hfz j) RS h1c rfl 2 2 1 cur.size ?_ ?_ (by omega) (aD hnew 0) (aD hnew 1)).mono ?_
  ·rw [av Dh j,Array.getElem?_eq_getElem (by omega)];rfl
  ·unfold World.shape?;rw [hnew];rfl
  ·unfold World.shape?;rw [Dh]
  ·rintro e w' ⟨rfl, rfl⟩
   obtain ⟨⟨c2,f1,f2,f3⟩,_⟩:=R3 (W:=(W.alloc (.cells #[.int .i64 y] 2)).drew) (g:=g) (k:=k) (n:=l0.length) (cur:=cur) (cs:=fl (Value.int .i64) l0) (y:=.int .i64 y) Dh hk hcl (by omega) hkc.symm
   have hG:W.grownBy (((W.alloc (.cells #[.int .i64 y] 2)).drew.setCells g (k+1) ((fl (Value.int .i64) l0).drop k)).setCells g k [.int .i64 y]) (some g) :=
    World.grownBy.trans (FO W _ _) (World.grownBy.trans (J2 _ _) (World.grownBy.trans (CP g _ _ _) (CP g _ _ _)))
   refine ⟨_,rfl,Kd.Af ⟨by simp [fl],.inr ⟨g,c,c2,by rw [hil],anU,f1,by rw [hil];exact hroom,rV,by omega,RP c2 f3⟩⟩ (fun k_ j7=>?_),hB.grown hG hb (fun k_ j7=>by injection j7 with j7;omega),hG,.inl rfl⟩
   exact hR.1 k_ j7
 obtain ⟨A,c,rfl⟩:=Kd.eF hR
 have Ri:qD l0 (k:Int) y=l0 ++ [y]:=by
  unfold qD
  rw [Int.toNat_natCast,hend,List.take_length,List.drop_length]
 rw [Ri]
 have hO:=Kd.bH hR (.cells #[.int .i64 y] 2)
 have P4:Kd.R (Kd.int .i64) 2 (W.alloc (.cells #[.int .i64 y] 2)) W.heap.size (fun _=>True) (.slice (some ⟨W.heap.size,0,none⟩) 1 1) [y]:=by
  refine Kd.Af ?_ (fun _ _=>trivial)
  have h2:=World.ownsRow_lit (base:=W.heap.size) (e:=2) (size:=1) W #[Value.int .i64 y] 1 (Nat.le_refl _) (by simp [maxLen]) (by simp)
  simpa [fl] using h2
 have HC:=k0 (Kd.bx P4).2.2
 have HO:=k0 hO
 have kS:=k0 CR
 have Vr:=k0 hok
 have U8:=k0 CS
 have HS:=k0 hsize
 have HL:=k0 hL
 have amS:=k0 hb
 have kJ:((k:Int) == (l0.length:Int))=true:=by simp [hend]
 have hkk:(k:Int)=(l0.length:Int):=by omega
 clear hR hO P4 CR hB hok CS hsize hL hnew Ri hb
 subst hend
 go_enter Try.func225,Try.ntmps225
 go_wp2_with (at_builtin;refine Kd.IY (Kd.int .i64) (w0:=w0) b rfl (.tmp 23) (.tmp 24) 28 2 (.int .i64 0) 8 rfl Try.underlying28 alU rfl (by decide) (by omega) (.slice A l0.length c) l0 [y] _ _ _ ok (fun _=>False) rfl rfl HO.out HC.out (fun _ _ h=>h) (fun _ h=>h.elim) (fun k hk=>Vr.out k (by have:=HS.out;omega)) kS.out (by have:=HS.out;have:=amS.out;omega) (by have:=HL.out;simp;omega) ?_;intro v105 w5 ho hb hg bX;have Vq:=k0 ho;have U5:=k0 hb;have U9:=k0 (World.grownBy.trans U8.out hg);have U3:=k0 bX;clear ho hb hg bX)
 all_goals go_ret
 all_goals (try (have Kj:c=l0.length:=(by assumption);subst Kj))
 all_goals exact ⟨_,rfl,Vq.out,U5.out,U9.out,U3.out.imp id (fun ⟨k_,h1,h2⟩=>⟨k_,h1,by have:=HS.out;omega⟩)⟩
mutual
def ct.l0 : Nat → List Int → Int → List (List Int) → List Int → List (List Int) → Int → Int → Int → List (List Int) → Option (List Int)
 | 0,_,_,_,_,_,_,_,_,_=>none
 | k+1,x1,x2,x7,x8,G9,nU,pZ,bF,bE=>if pZ < nU then (if 0≤pZ then (if pZ < (G9.length:Int) then (if pZ=x2 then (ct.l0 k x1 x2 x7 x8 G9 nU (wrap64 (pZ+1)) bF bE) else ((kr.f (ah G9 pZ)).bind fun t112=>(if 0≤x2 then (if x2 < (t112.length:Int) then (if x7.length < 5864062014805 then (if pZ < (x1.length:Int) then (if x8.length < 17592186044416 then (ct.l0 k x1 x2 (x7 ++ [(t112.eraseIdx (x2:Int).toNat)]) (x8 ++ [rd x1 pZ]) G9 nU (wrap64 (pZ+1)) bF bE) else (none)) else (none)) else (none)) else (none)) else (none)))) else (none)) else (none)) else ((bD.f k x7).bind fun t125=>(ct.l1 k x1 x2 x7 x8 t125 (([]:List Int)) (x7.length:Int) 0 bF bE))
def ct.l1 : Nat → List Int → Int → List (List Int) → List Int → Int → List Int → Int → Int → Int → List (List Int) → Option (List Int)
 | 0,_,_,_,_,_,_,_,_,_,_=>none
 | k+1,x1,x2,x7,x8,eO,fP,EG,anl,bF,bE=>if anl < EG then (ct.l2 k x1 x2 x7 x8 eO fP anl (([]:List (List Int))) EG anl (x7.length:Int) 0 bF bE) else (if (fP.length < 17592186044416∧0≤x2∧x2≤(fP.length:Int)) then ((cC.f k bF bE x1 (qD fP x2 0)).bind fun t132=>(some t132)) else (none))
def ct.l2 : Nat → List Int → Int → List (List Int) → List Int → Int → List Int → Int → List (List Int) → Int → Int → Int → Int → Int → List (List Int) → Option (List Int)
 | 0,_,_,_,_,_,_,_,_,_,_,_,_,_,_=>none
 | k+1,x1,x2,x7,x8,eO,fP,gO,oJ,EG,anl,TK,zN,bF,bE=>if zN < TK then (if 0≤zN then (if zN < (x7.length:Int) then ((kr.f (ah x7 zN)).bind fun t139=>(if zN < (x8.length:Int) then (if 0≤gO then (if gO < (t139.length:Int) then (if oJ.length < 5864062014805 then (ct.l2 k x1 x2 x7 x8 eO fP gO (oJ ++ [(t139.set (gO:Int).toNat (rd x8 zN))]) EG anl TK (wrap64 (zN+1)) bF bE) else (none)) else (none)) else (none)) else (none))) else (none)) else (none)) else ((bD.f k oJ).bind fun t147=>((wC.f t147 eO).bind fun t148=>(if fP.length < 17592186044416 then (ct.l1 k x1 x2 x7 x8 eO (fP ++ [t148]) EG (wrap64 (anl+1)) bF bE) else (none))))
end
def ct.f (k:Nat) (af:Int) (aa:List (List Int)) (l1:List Int) (a2:Int):Option (List Int):=(cz.f k af aa).bind fun t108=>(ct.l0 k l1 a2 (([]:List (List Int))) (([]:List Int)) t108 (t108.length:Int) 0 af aa)
theorem ct.bU : ∀ k, (∀ y0 y1 y2 y3 y4 y5 y6 y7 y8, aj (ct.l0 k y0 y1 y2 y3 y4 y5 y6 y7 y8) (ct.l0 (k + 1) y0 y1 y2 y3 y4 y5 y6 y7 y8)) ∧ (∀ y0 y1 y2 y3 y4 y5 y6 y7 y8 y9, aj (ct.l1 k y0 y1 y2 y3 y4 y5 y6 y7 y8 y9) (ct.l1 (k + 1) y0 y1 y2 y3 y4 y5 y6 y7 y8 y9)) ∧ (∀ y0 y1 y2 y3 y4 y5 y6 y7 y8 y9 EH TN TP TU, aj (ct.l2 k y0 y1 y2 y3 y4 y5 y6 y7 y8 y9 EH TN TP TU) (ct.l2 (k + 1) y0 y1 y2 y3 y4 y5 y6 y7 y8 y9 EH TN TP TU))
 | 0=>⟨fun _ _ _ _ _ _ _ _ _ r h=>by simp [ct.l0] at h,fun _ _ _ _ _ _ _ _ _ _ r h=>by simp [ct.l1] at h,fun _ _ _ _ _ _ _ _ _ _ _ _ _ _ r h=>by simp [ct.l2] at h⟩
 | k+1=>by
  obtain ⟨alg,ih1,ih2⟩:=ct.bU k
  refine ⟨?_, ?_, ?_⟩ <;> intros <;> (first | unfold ct.l0 | unfold ct.l1 | unfold ct.l2) <;> repeat' first
   | (with_reducible first|exact alg _ _ _ _ _ _ _ _ _|exact ih1 _ _ _ _ _ _ _ _ _ _|exact ih2 _ _ _ _ _ _ _ _ _ _ _ _ _ _|exact cC.mono _ _ _ _ _|exact cz.mono _ _ _|exact bD.mono _ _|exact aj.refl _|exact aj.none _|refine aj.ite ?_ ?_|refine aj.bind ?_ (fun _=>?_))
   | exact alg _ _ _ _ _ _ _ _ _|exact ih1 _ _ _ _ _ _ _ _ _ _|exact ih2 _ _ _ _ _ _ _ _ _ _ _ _ _ _|exact cC.mono _ _ _ _ _|exact cz.mono _ _ _|exact bD.mono _ _|exact aj.none _|refine aj.ite ?_ ?_|refine aj.bind ?_ (fun _=>?_)
theorem ct.mono:∀ a0 a1 a2 a3 k,aj (ct.f k a0 a1 a2 a3) (ct.f (k+1) a0 a1 a2 a3):=by
 intro a0 a1 a2 a3 k
 obtain ⟨alg,ih1,ih2⟩:=ct.bU k
 unfold ct.f
 repeat' first
  | (with_reducible first|exact alg _ _ _ _ _ _ _ _ _|exact ih1 _ _ _ _ _ _ _ _ _ _|exact ih2 _ _ _ _ _ _ _ _ _ _ _ _ _ _|exact cC.mono _ _ _ _ _|exact cz.mono _ _ _|exact bD.mono _ _|exact aj.refl _|exact aj.none _|refine aj.ite ?_ ?_|refine aj.bind ?_ (fun _=>?_))
  | exact alg _ _ _ _ _ _ _ _ _|exact ih1 _ _ _ _ _ _ _ _ _ _|exact ih2 _ _ _ _ _ _ _ _ _ _ _ _ _ _|exact cC.mono _ _ _ _ _|exact cz.mono _ _ _|exact bD.mono _ _|exact aj.none _|refine aj.ite ?_ ?_|refine aj.bind ?_ (fun _=>?_)
def ct.Ok:Bool × List (List Nat × List Nat):=(true,[([],[]),([],[]),([],[]),([],[]),([],[]),([2,3,4],[2,3,4]),([0,1,5,5],[0,1,5]),([6,6,0,1,2,3,4,5,6],[6])])
def ct.Uo:List Nat:=[0,0,0,0,0,28,63,127]
theorem ct.ae3:gv .any (opsOf Try.f183 23)=ct.Ok:=by kernel_rfl
theorem ct.W4:mN ct.Ok.2 ct.Uo=true:=by kernel_rfl
set_option maxHeartbeats 8000000 in
set_option maxRecDepth 100000 in
theorem ct.calls (k : Nat) (af : Int) (aq : Option Addr) (ak : Nat) (aa : List (List Int)) (A1 : Option Addr) (c1 : Nat) (l1 : List Int) (a2 : Int) (r : List Int) (w : World) (aly : Kd.C (Kd.slice 2 (Kd.int .i64)) w aq aa.length aa) (ck : aa.length ≤ ak) (c_ : Kd.C (Kd.int .i64) w A1 l1.length l1) (eY : l1.length ≤ c1) (h : ct.f k af aa l1 a2 = some r) :
  Calls Try.prog 183 #[.agg #[.int .i64 af,.slice aq aa.length ak],.slice A1 l1.length c1,.int .i64 a2] w fun e w'=>∃ dH:Value,e=.returned (dH)∧Kd.R (Kd.int .i64) 2 w' w.heap.size (fun _=>True) dH r∧Below w.heap.size w w':=by
 have j9:=Try.underlying31
 have bZ:=k0 aly
 have cD:=k0 ck
 clear aly ck
 have eP:=k0 c_
 have kT:=k0 eY
 clear c_ eY
 have HB:=k0 (Below.refl w.heap.size w)
 have H:((cz.f k af aa).bind fun t108=>(ct.l0 k l1 a2 (([]:List (List Int))) (([]:List Int)) t108 (t108.length:Int) 0 af aa))=some r:=h
 clear h
 obtain ⟨alD,eM⟩:∃ y_:List (List Int),y_=(([]:List (List Int))):=⟨_,rfl⟩
 replace H:((cz.f k af aa).bind fun t108=>(ct.l0 k l1 a2 alD (([]:List Int)) t108 (t108.length:Int) 0 af aa))=some r:=by first|(rw [eM];with_reducible exact H)|(have ax:=(Option.bind_some _ _).symm.trans H;rw [eM];with_reducible exact ax)|(have ax:=(Option.bind_some _ _).symm.trans H;with_reducible exact ax)|with_reducible exact H|(rw [eM];exact H)|exact H
 have gz:=k0 eM
 clear eM
 obtain ⟨jb,fy⟩:∃ y_:List Int,y_=(([]:List Int)):=⟨_,rfl⟩
 replace H:((cz.f k af aa).bind fun t108=>(ct.l0 k l1 a2 alD jb t108 (t108.length:Int) 0 af aa))=some r:=by first|(rw [fy];with_reducible exact H)|(have ax:=(Option.bind_some _ _).symm.trans H;rw [fy];with_reducible exact ax)|(have ax:=(Option.bind_some _ _).symm.trans H;with_reducible exact ax)|with_reducible exact H|(rw [fy];exact H)|exact H
 have lY:=k0 fy
 clear fy
 replace H:=Option.bind_eq_some_iff.mp H
 obtain ⟨t108,lM,H⟩:=H
 replace H:(ct.l0 k l1 a2 alD jb t108 (t108.length:Int) 0 af aa)=some r:=H
 have A4:=k0 lM
 clear lM
 have H':=k0 H
 clear H
 go_enter Try.func183,Try.ntmps183
 go_wp2_with (first|((with_reducible refine cj (N:=3) rfl ?_);refine dK ?hg (N:=3) ?hd (cs:=#[.int .i64 af,.slice aq aa.length ak]) (t:=31) ?hr ?_;(case hd=>rfl);(case hg=>rfl);(case hr=>first|(go_simp;done)|(go_simp;rfl));intro ai hg w5 aJ hb;have ag:=k0 (aJ);have b8:=k0 ((by rw [hg];exact (alk bl):w.heap.size≤ai));have eB:=b8;replace HB:=k0 (aI bl hb);clear hb aJ hg)|((with_reducible refine cj (N:=18) rfl ?_);refine Kd.Ca (Kd.slice 2 (Kd.int .i64)) _ 28 ?hg (N:=18) ?hd (xs:=([]:List (List Int))) (inner:=[]) (ok:=fun _=>True) (b9:=fun _=>True) ?hr ?hp (fun _ hk=>hk) trivial (Below.refl _ _) (Nat.le_refl _) (by simp) ?_;(case hd=>rfl);(case hg=>rfl);(case hr=>first|(go_simp;done)|(go_simp;rfl));(case hp=>exact (bW.none _ _));intro dn w6 Dr hb dF dG;clear dF dG;(first|rw [← gz.out] at Dr|(simp only [Int.reduceToNat] at Dr;rw [← gz.out] at Dr));have bq:=k0 (Kd.oR Dr (alk bl));replace ag:=k0 (alm (g:=ai) (o:=sO af aq aa ak 31) bk hb);replace HB:=k0 (aI bl hb);clear hb Dr)|((with_reducible refine cj (N:=19) rfl ?_);refine Kd.al2 (Kd.int .i64) _ 2 ?hg (N:=19) ?hd (xs:=([]:List Int)) (inner:=[]) (ok:=fun _=>True) (b9:=fun _=>True) ?hr ?hp (fun _ hk=>hk) trivial (Below.refl _ _) (Nat.le_refl _) (by simp) ?_;(case hd=>rfl);(case hg=>rfl);(case hr=>first|(go_simp;done)|(go_simp;rfl));(case hp=>exact (bW.none _ _));intro fY w8 ri hb dF dG;clear dF dG;(first|rw [← lY.out] at ri|(simp only [Int.reduceToNat] at ri;rw [← lY.out] at ri));replace bq:=k0 (Kd.kE (aS bq.out) (Kd.cn ri) hb);have cO:=k0 (Kd.dI ri (alk bl));replace ag:=k0 (alm (g:=ai) (o:=sO af aq aa ak 31) bk hb);replace HB:=k0 (aI bl hb);clear hb ri;have rW:w8.cell? ⟨ai,0,none⟩=some (.int .i64 af):=(av ag.out 0).trans rfl;have rX:w8.cell? ⟨ai,1,none⟩=some (.slice aq aa.length ak):=(av ag.out 1).trans rfl;have r3:=aD ag.out 0;have r4:=aD ag.out 1)|((with_reducible refine dx (f:=195) rfl ?_);refine dy (some 21) rfl rfl Try.func195 (by kernel_rfl) rfl #[.agg #[.int .i64 af,.slice aq aa.length ak]] rfl gm ?_;(with_reducible refine (cz.calls k af _ _ aa t108 _ ?aT ?aU A4.out).mono ?_);(case aT=>exact aC (Kd.bK bZ.out HB.out));(case aU=>exact cD.out);rintro e alE ⟨v109,rfl,aM,hb⟩;refine ⟨_,rfl,?_⟩;have zY:=k0 (Kd.oR (Kd.qf (Kd.qf aM (Kd.wP (aS bq.out))) (Kd.cH (aR cO.out))) (alk bl));replace bq:=k0 (Kd.kE (aS bq.out) (Kd.Ah aM) hb);replace cO:=k0 (Kd.en (aR cO.out) hb);replace ag:=k0 (alm (g:=ai) (o:=sO af aq aa ak 31) bk hb);replace HB:=k0 (aI bl hb);(try clear hb);(try clear aM);obtain ⟨ko,g_,yC⟩:=Kd.pF zY.out;subst yC))
 go_loopg [7,8,23] k (fun kq v7 v8 v23 w'=>∃ (ie:List (List Int)) (bg:List Int) (gp:Int),v23=.int .i64 gp∧au (ct.l0 kq l1 a2 ie bg t108 (t108.length:Int) gp af aa=some r)∧au (kq≤k)∧au (Kd.S (Kd.slice 2 (Kd.int .i64)) 28 w' w.heap.size (fun k_=>some k_ ≠ (v8:Value).ownBlock∧some k_ ≠ ((.slice ko t108.length g_):Value).ownBlock) v7 ie)∧au (Kd.R (Kd.int .i64) 2 w' w.heap.size (fun _=>True) v8 bg)∧au (Kd.S (Kd.slice 2 (Kd.int .i64)) 28 w' w.heap.size (fun k_=>some k_ ≠ (v7:Value).ownBlock∧some k_ ≠ (v8:Value).ownBlock) (.slice ko t108.length g_) t108)∧au (w'.heap[ai]?=some (sO af aq aa ak 31))∧au (Below w.heap.size w w'))
 case atStart=>exact ⟨(alD),(jb),(0),rs,H',⟨Nat.le_refl _⟩,⟨aS (Kd.iF bq.out (fun _ hk=>⟨hk.1.2,hk.2⟩))⟩,⟨aR (cO.out)⟩,⟨aS (Kd.iF zY.out (fun _ hk=>⟨hk.1.2,hk.2⟩))⟩,⟨bk⟩,⟨bl⟩⟩
 case round =>
  clear H'
  (try clear rW);(try clear rX);(try clear r3);(try clear r4)
  obtain ⟨ie,bg,gp,rfl,HA,alj,alr,aZ,kC,ag,HB⟩:=hrel
  cases gk with
  | zero=>exact absurd HA.out (by simp [ct.l0])
  | succ k1 =>
   have H:=HA.out
   clear HA
   simp only [ct.l0] at H
   by_cases c13:gp < (t108.length:Int)
   case neg =>
    rw [if_neg c13] at H
    have alV:decide (gp < (t108.length:Int))=false:=decide_eq_false c13
    clear c13
    replace H:=Option.bind_eq_some_iff.mp H
    obtain ⟨t125,MB,H⟩:=H
    replace H:(ct.l1 k1 l1 a2 ie bg t125 (([]:List Int)) (ie.length:Int) 0 af aa)=some r:=H
    have EM:=k0 MB
    clear MB
    obtain ⟨TT,D0⟩:∃ y_:List Int,y_=(([]:List Int)):=⟨_,rfl⟩
    replace H:(ct.l1 k1 l1 a2 ie bg t125 TT (ie.length:Int) 0 af aa)=some r:=by first|(rw [D0];with_reducible exact H)|(have ax:=(Option.bind_some _ _).symm.trans H;rw [D0];with_reducible exact ax)|(have ax:=(Option.bind_some _ _).symm.trans H;with_reducible exact ax)|with_reducible exact H|(rw [D0];exact H)|exact H
    have N2:=k0 D0
    clear D0
    have H':=k0 H
    clear H
    obtain ⟨amD,qj,JC⟩:=Kd.pF alr.out
    subst JC
    go_wp2_with (first|((with_reducible refine dx (f:=223) rfl ?_);refine dy (some 49) rfl rfl Try.func223 (by kernel_rfl) rfl #[.slice amD ie.length qj] rfl gm ?_;(with_reducible refine (bD.calls k1 _ _ ie t125 _ ?aT ?aU EM.out).mono ?_);(case aT=>exact aC ((Kd.alw alr.out).2.2));(case aU=>exact (Kd.alw alr.out).2.1);rintro e si ⟨rfl,hb⟩;refine ⟨_,rfl,?_⟩;replace alr:=k0 (Kd.kY (aS alr.out) hb);replace aZ:=k0 (Kd.en (aR aZ.out) hb);replace kC:=k0 (Kd.kY (aS kC.out) hb);replace ag:=k0 (alm (g:=ai) (o:=sO af aq aa ak 31) bk hb);replace HB:=k0 (aI bl hb);(try clear hb))|((with_reducible refine cj (N:=50) rfl ?_);refine Kd.al2 (Kd.int .i64) _ 2 ?hg (N:=50) ?hd (xs:=([]:List Int)) (inner:=[]) (ok:=fun _=>True) (b9:=fun _=>True) ?hr ?hp (fun _ hk=>hk) trivial (Below.refl _ _) (Nat.le_refl _) (by simp) ?_;(case hd=>rfl);(case hg=>rfl);(case hr=>first|(go_simp;done)|(go_simp;rfl));(case hp=>exact (bW.none _ _));intro v127 uR xE hb dF dG;clear dF dG;(first|rw [← N2.out] at xE|(simp only [Int.reduceToNat] at xE;rw [← N2.out] at xE));replace alr:=k0 (Kd.kE (aS alr.out) (Kd.cn xE) hb);replace kC:=k0 (Kd.kE (aS kC.out) (Kd.cn xE) hb);have uf:=k0 (Kd.dI (Kd.ep xE (Kd.cH (aR aZ.out))) (alk bl));replace aZ:=k0 (Kd.alB (aR aZ.out) (Kd.cn xE) hb);replace ag:=k0 (alm (g:=ai) (o:=sO af aq aa ak 31) bk hb);replace HB:=k0 (aI bl hb);clear hb xE))
    go_loopg [12,53] k1 (fun kq v12 v53 w'=>∃ (dB:List (List Int)) (mP:List Int) (lV:List Int) (jw:Int),v53=.int .i64 jw∧au (ct.l1 kq l1 a2 dB mP t125 lV (ie.length:Int) jw af aa=some r)∧au (kq≤k1)∧au (Kd.S (Kd.slice 2 (Kd.int .i64)) 28 w' w.heap.size (fun k_=>some k_ ≠ (u8:Value).ownBlock∧some k_ ≠ (v12:Value).ownBlock) (.slice amD ie.length qj) dB)∧au (Kd.R (Kd.int .i64) 2 w' w.heap.size (fun k_=>some k_ ≠ (v12:Value).ownBlock) u8 mP)∧au (Kd.R (Kd.int .i64) 2 w' w.heap.size (fun k_=>some k_ ≠ (u8:Value).ownBlock) v12 lV)∧au (w'.heap[ai]?=some (sO af aq aa ak 31))∧au (Below w.heap.size w w'))
    case atStart=>exact ⟨(ie),(bg),(TT),(0),rs,H',⟨Nat.le_refl _⟩,⟨aS (Kd.iF alr.out (fun _ hk=>⟨hk.1.1,hk.2⟩))⟩,⟨aR (Kd.alq aZ.out (fun _ hk=>hk.2))⟩,⟨aR (Kd.alq uf.out (fun _ hk=>hk.2))⟩,⟨bk⟩,⟨bl⟩⟩
    case round =>
     clear H'
     (try clear c13);(try clear alV);(try clear c14);(try clear kH);(try clear c15);(try clear jD);(try clear c16);(try clear qY);(try clear Ax);(try clear c18);(try clear qZ);(try clear c19);(try clear lC);(try clear c20);(try clear c21);(try clear uq);(try clear c22);(try clear rW);(try clear rX);(try clear r3);(try clear r4);(try clear gN);(try clear zh);(try clear gj);(try clear amy);(try clear alG);(try clear we)
     obtain ⟨dB,mP,lV,jw,rfl,HA,bB,alr,aZ,eL,ag,HB⟩:=hrel
     have jR:=(Kd.alw alr.out).1
     rw [jR] at alr
     (try simp only [jR])
     (try simp only [jR] at ag)
     (try simp only [jR] at aZ)
     (try simp only [jR] at eL)
     cases gk with
     | zero=>exact absurd HA.out (by simp [ct.l1])
     | succ k2 =>
      have H:=HA.out
      clear HA
      simp only [ct.l1] at H
      by_cases c34:jw < (ie.length:Int)
      case neg =>
       rw [if_neg c34] at H
       have vC:decide (jw < (ie.length:Int))=false:=decide_eq_false c34
       (try simp only [jR] at vC)
       clear c34
       replace H:=iS H;obtain ⟨c57,H⟩:=H
       have IG:=k0 c57
       clear c57
       obtain ⟨Mq,anu⟩:∃ y_:List Int,y_=(qD lV a2 0):=⟨_,rfl⟩
       replace H:((cC.f k2 af aa l1 Mq).bind fun t132=>(some t132))=some r:=by first|(rw [anu];with_reducible exact H)|(have ax:=(Option.bind_some _ _).symm.trans H;rw [anu];with_reducible exact ax)|(have ax:=(Option.bind_some _ _).symm.trans H;with_reducible exact ax)|with_reducible exact H|(rw [anu];exact H)|exact H
       have V6:=k0 anu
       clear anu
       replace H:=Option.bind_eq_some_iff.mp H
       obtain ⟨t132,MP,H⟩:=H
       replace H:(some t132)=some r:=H
       have an5:=k0 MP
       clear MP
       obtain rfl:=Option.some.inj H
       try go_wp2
       replace alr:=k0 (Kd.eW alr.out);replace aZ:=k0 (Kd.bn aZ.out);replace eL:=k0 (Kd.bn eL.out);replace ag:=k0 (cw ag.out);replace HB:=k0 (cP HB.out)
       refine lU (n:=8) (S:=fun w'=>w'.cell? ⟨ai,0,none⟩=some (.int .i64 af)∧w'.cell? ⟨ai,1,none⟩=some (.slice aq aa.length ak)) (ds:=[]) (ba 8 0) (by kernel_rfl) rfl rfl ⟨(av ag.out 0).trans rfl,(av ag.out 1).trans rfl⟩ (fun hHeld=>?_);refine pW ct.ae3 ct.W4 (fun ay cZ=>?_)
       generalize wr.drew=am1 at alr aZ eL ag HB hHeld ⊢
       refine pu 1 (some 87) (ba 8 2) ay (h:=?_)
       refine pu 2 (some 88) (ba 8 6) ay (h:=?_)
       refine pu 3 (some 89) (ba 8 14) ay (h:=?_)
       refine ta 0 (some 86) (ba 8 15) ay cZ hHeld (hy:=Or.inl ⟨by rfl,by rintro w' ⟨s0,s1⟩;go_simp;with_reducible rfl⟩) (h:=?_)
       refine nN (i:=4) (N:=some 90) (ba 8 31) rfl rfl (kg ay.out (by kernel_rfl)) (by decide) (fun K hK=>?_)
       refine G5 (w1:=?_) (v:=?_) (by rfl) rfl ?_ ?_
       rotate_left 2
       ·go_simp
        constructor
        ·rfl
        ·rfl
       refine hK.out _ _ ⟨(av (dV ag.out _) 0).trans rfl,(av (dV ag.out _) 1).trans rfl⟩ (fun hHeld=>?_)
       clear hK K
       refine cQ (a':=?_) ?_ ?_
       rotate_left;· show Act.put _ (some 90) _=_;simp only [Act.put,zI,zZ,zS,cl,cv];rfl
       refine nN (i:=5) (N:=some 91) (ba 8 63) rfl rfl (kg ay.out (by kernel_rfl)) (by decide) (fun K hK=>?_)
       refine mY Try.func225 (by kernel_rfl) rfl #[u12,.int .i64 a2,.slice (some ⟨am1.heap.size,0,none⟩) 1 1] (by rfl) rfl rfl gm ?_
       refine (acA 0 lV a2 am1 w w.heap.size (fun k_=>some k_ ≠ (u8:Value).ownBlock) u12 (aR eL.out) (fun k_ hk=>Kd.fresh' (Kd.cH (aR aZ.out)) k_ hk) IG.out.2.1 IG.out.2.2 bl (alk bl) IG.out.1).mono ?_
       rintro e w60 ⟨v130,rfl,ho,hb,hg,bX⟩
       refine ⟨_,rfl,?_⟩
       rw [← V6.out] at ho
       have aE:=k0 (Kd.sC (ok:=(fun k_=>some k_ ≠ (u8:Value).ownBlock)) (aS alr.out) hg bX)
       have aH:=k0 (Kd.mz (ok:=(fun _=>True)) (by (with_reducible repeat (first|apply Kd.bH|apply Kd.bL|apply Kd.bn));exact Kd.alq aZ.out (fun _ hk=>⟨trivial,hk⟩)) hg bX)
       have aK:=k0 (iQ (g:=ai) (o:=sO af aq aa ak 31) bk hg (Kd.gY eL.out ag.out (by decide)))
       have a_:=k0 (hb)
       have alp:=k0 (ho)
       clear alr
       clear aZ
       clear ag
       clear HB
       clear eL
       have alr:=aE
       have aZ:=aH
       have ag:=aK
       have HB:=a_
       have amE:=alp
       clear aE aH aK a_ alp
       clear ho hb hg bX
       obtain ⟨Uh,Ym,Pd⟩:=Kd.eF amE.out
       (first|subst Pd|(injection Pd with alT om jQ;have oo:=alT.symm;have oq:=jQ.symm;clear alT om jQ;subst oo;subst oq))
       refine hK.out _ _ ⟨(av ag.out 0).trans rfl,(av ag.out 1).trans rfl⟩ (fun hHeld=>?_)
       clear hK K
       refine cQ (a':=?_) ?_ ?_
       rotate_left;· show Act.put _ (some 91) _=_;simp only [Act.put,zI,zZ,zS,cl,cv];rfl
       refine nN (i:=6) (N:=some 92) (ba 8 127) rfl rfl (kg ay.out (by kernel_rfl)) (by decide) (fun K hK=>?_)
       refine mY Try.func186 (by kernel_rfl) rfl #[.agg #[.int .i64 af,.slice aq aa.length ak],.slice A1 l1.length c1,.slice Uh Mq.length Ym] (by rfl) rfl rfl gm ?_
       with_reducible refine (cC.calls k2 af _ _ aa _ _ l1 _ _ Mq t132 _ ?aT ?aU ?cy ?cI ?rq ?ru an5.out).mono ?_
       (case aT=>exact aC (Kd.bK bZ.out HB.out))
       (case aU=>exact cD.out)
       (case cy=>exact aC (Kd.bK eP.out HB.out))
       (case cI=>exact kT.out)
       (case rq=>exact aC ((Kd.bx amE.out).2.2))
       (case ru=>exact (Kd.bx amE.out).2.1)
       rintro e w62 ⟨akF,rfl,aM,hb⟩
       refine ⟨_,rfl,?_⟩
       replace alr:=k0 (Kd.kE (aS alr.out) (Kd.cn aM) hb);have Vm:=k0 (Kd.dI (Kd.ep (Kd.ep aM (Kd.cH (aR aZ.out))) (Kd.cH (aR amE.out))) (alk bl));replace aZ:=k0 (Kd.alB (aR aZ.out) (Kd.cn aM) hb);replace amE:=k0 (Kd.alB (aR amE.out) (Kd.cn aM) hb);replace ag:=k0 (alm (g:=ai) (o:=sO af aq aa ak 31) bk hb);replace HB:=k0 (aI bl hb)
       (try clear hb);(try clear aM)
       refine hK.out _ _ ⟨(av ag.out 0).trans rfl,(av ag.out 1).trans rfl⟩ (fun hHeld=>?_)
       clear hK K
       refine cQ (a':=?_) ?_ ?_
       rotate_left;· show Act.put _ (some 92) _=_;simp only [Act.put,zI,zZ,zS,cl,cv];rfl
       refine pu 7 (some 6) (ba 8 255) ay (h:=?_)
       refine lQ (pN ay.out (by kernel_rfl)) ?_
       try go_wp2
       go_ret
       exact ⟨_,by first|rfl|(simp [bz,bA]<;>rfl)|(simp [*,bz,bA]<;>rfl),by (with_reducible repeat (first|apply Kd.bH|apply Kd.bL|apply Kd.bn));exact Kd.alq Vm.out (fun _ hk=>trivial),bl⟩
      rw [if_pos c34] at H
      have vC:=decide_eq_true c34
      (try simp only [jR] at vC)
      clear c34
      obtain ⟨TW,D4⟩:∃ y_:List (List Int),y_=(([]:List (List Int))):=⟨_,rfl⟩
      replace H:(ct.l2 k2 l1 a2 dB mP t125 lV jw TW (ie.length:Int) jw (dB.length:Int) 0 af aa)=some r:=by first|(rw [D4];with_reducible exact H)|(have ax:=(Option.bind_some _ _).symm.trans H;rw [D4];with_reducible exact ax)|(have ax:=(Option.bind_some _ _).symm.trans H;with_reducible exact ax)|with_reducible exact H|(rw [D4];exact H)|exact H
      have N3:=k0 D4
      clear D4
      have H':=k0 H
      clear H
      go_wp2_with (first|((with_reducible refine cj (N:=56) rfl ?_);refine Kd.Ca (Kd.slice 2 (Kd.int .i64)) _ 28 ?hg (N:=56) ?hd (xs:=([]:List (List Int))) (inner:=[]) (ok:=fun _=>True) (b9:=fun _=>True) ?hr ?hp (fun _ hk=>hk) trivial (Below.refl _ _) (Nat.le_refl _) (by simp) ?_;(case hd=>rfl);(case hg=>rfl);(case hr=>first|(go_simp;done)|(go_simp;rfl));(case hp=>exact (bW.none _ _));intro akG tV qA hb dF dG;clear dF dG;(first|rw [← N3.out] at qA|(simp only [Int.reduceToNat] at qA;rw [← N3.out] at qA));have Vn:=k0 (Kd.oR (Kd.qf (Kd.qf (Kd.qf qA (Kd.wP (aS alr.out))) (Kd.cH (aR aZ.out))) (Kd.cH (aR eL.out))) (alk bl));replace alr:=k0 (Kd.kE (aS alr.out) (Kd.Ah qA) hb);replace aZ:=k0 (Kd.en (aR aZ.out) hb);replace eL:=k0 (Kd.en (aR eL.out) hb);replace ag:=k0 (alm (g:=ai) (o:=sO af aq aa ak 31) bk hb);replace HB:=k0 (aI bl hb);clear hb qA))
      go_loopg [14,59] k2 (fun kq G4 v59 w'=>∃ (alY:List (List Int)) (aX:List Int) (cx:List Int) (sj:List (List Int)) (kk:Int),v59=.int .i64 kk∧au (ct.l2 kq l1 a2 alY aX t125 cx jw sj (ie.length:Int) jw (dB.length:Int) kk af aa=some r)∧au (kq≤k2)∧au (Kd.S (Kd.slice 2 (Kd.int .i64)) 28 w' w.heap.size (fun k_=>some k_ ≠ (u8:Value).ownBlock∧some k_ ≠ (u12:Value).ownBlock∧some k_ ≠ (G4:Value).ownBlock) (.slice amD dB.length qj) alY)∧au (Kd.R (Kd.int .i64) 2 w' w.heap.size (fun k_=>some k_ ≠ (u12:Value).ownBlock) u8 aX)∧au (Kd.R (Kd.int .i64) 2 w' w.heap.size (fun k_=>some k_ ≠ (u8:Value).ownBlock) u12 cx)∧au (Kd.S (Kd.slice 2 (Kd.int .i64)) 28 w' w.heap.size (fun k_=>some k_ ≠ ((.slice amD dB.length qj):Value).ownBlock∧some k_ ≠ (u8:Value).ownBlock∧some k_ ≠ (u12:Value).ownBlock) G4 sj)∧au (w'.heap[ai]?=some (sO af aq aa ak 31))∧au (Below w.heap.size w w'))
      case atStart=>exact ⟨(dB),(mP),(lV),(TW),(0),rs,H',⟨Nat.le_refl _⟩,⟨by (try simp only [jR]);(with_reducible repeat (first|apply Kd.gK|apply Kd.alH|apply Kd.eW));exact Kd.iF alr.out (fun _ hk=>⟨hk.1.1,⟨hk.1.2,hk.2⟩⟩)⟩,⟨by (try simp only [jR]);(with_reducible repeat (first|apply Kd.bH|apply Kd.bL|apply Kd.bn));exact aZ.out⟩,⟨by (try simp only [jR]);(with_reducible repeat (first|apply Kd.bH|apply Kd.bL|apply Kd.bn));exact eL.out⟩,⟨by (try simp only [jR]);(with_reducible repeat (first|apply Kd.gK|apply Kd.alH|apply Kd.eW));exact Kd.iF Vn.out (fun _ hk=>⟨hk.1.1.2,⟨hk.1.2,hk.2⟩⟩)⟩,⟨by (try simp only [jR]);exact bk⟩,⟨bl⟩⟩
      case round =>
       clear H'
       (try clear c13);(try clear alV);(try clear c14);(try clear kH);(try clear c15);(try clear jD);(try clear c16);(try clear qY);(try clear Ax);(try clear c18);(try clear qZ);(try clear c19);(try clear lC);(try clear c20);(try clear c21);(try clear uq);(try clear c22);(try clear c34);(try clear vC);(try clear rW);(try clear rX);(try clear r3);(try clear r4);(try clear gN);(try clear zh);(try clear gj);(try clear amy);(try clear alG);(try clear we)
       obtain ⟨alY,aX,cx,sj,kk,rfl,HA,cN,alr,aZ,eL,mo,ag,HB⟩:=hrel
       have lR:=(Kd.alw alr.out).1
       rw [lR] at alr
       (try simp only [lR])
       (try simp only [lR] at ag)
       (try simp only [lR] at aZ)
       (try simp only [lR] at eL)
       (try simp only [lR] at mo)
       cases gk with
       | zero=>exact absurd HA.out (by simp [ct.l2])
       | succ k3 =>
        have H:=HA.out
        clear HA
        simp only [ct.l2] at H
        by_cases c37:kk < (dB.length:Int)
        case neg =>
         rw [if_neg c37] at H
         have Jg:decide (kk < (dB.length:Int))=false:=decide_eq_false c37
         (try simp only [jR,lR] at Jg)
         clear c37
         replace H:=Option.bind_eq_some_iff.mp H
         obtain ⟨t147,BO,H⟩:=H
         replace H:((wC.f t147 t125).bind fun t148=>(if cx.length < 17592186044416 then (ct.l1 k3 l1 a2 alY aX t125 (cx ++ [t148]) (ie.length:Int) (wrap64 (jw+1)) af aa) else (none)))=some r:=H
         have Hs:=k0 BO
         clear BO
         replace H:=Option.bind_eq_some_iff.mp H
         obtain ⟨t148,MO,H⟩:=H
         replace H:(if cx.length < 17592186044416 then (ct.l1 k3 l1 a2 alY aX t125 (cx ++ [t148]) (ie.length:Int) (wrap64 (jw+1)) af aa) else (none))=some r:=H
         have an4:=k0 MO
         clear MO
         replace H:=iS H;obtain ⟨c53,H⟩:=H
         have VQ:=k0 c53
         clear c53
         obtain ⟨TY,D7⟩:∃ y_:List Int,y_=(cx ++ [t148]):=⟨_,rfl⟩
         replace H:(ct.l1 k3 l1 a2 alY aX t125 TY (ie.length:Int) (wrap64 (jw+1)) af aa)=some r:=by first|(rw [D7];with_reducible exact H)|(have ax:=(Option.bind_some _ _).symm.trans H;rw [D7];with_reducible exact ax)|(have ax:=(Option.bind_some _ _).symm.trans H;with_reducible exact ax)|with_reducible exact H|(rw [D7];exact H)|exact H
         have Wa:=k0 D7
         clear D7
         have H':=k0 H
         clear H
         obtain ⟨MW,OX,YW⟩:=Kd.pF mo.out
         subst YW
         go_wp2_with (first|((with_reducible refine dx (f:=223) rfl ?_);refine dy (some 80) rfl rfl Try.func223 (by kernel_rfl) rfl #[.slice MW sj.length OX] rfl gm ?_;(with_reducible refine (bD.calls k3 _ _ sj t147 _ ?aT ?aU Hs.out).mono ?_);(case aT=>exact aC ((Kd.alw mo.out).2.2));(case aU=>exact (Kd.alw mo.out).2.1);rintro e w55 ⟨rfl,hb⟩;refine ⟨_,rfl,?_⟩;replace alr:=k0 (Kd.kY (aS alr.out) hb);replace aZ:=k0 (Kd.en (aR aZ.out) hb);replace eL:=k0 (Kd.en (aR eL.out) hb);replace mo:=k0 (Kd.kY (aS mo.out) hb);replace ag:=k0 (alm (g:=ai) (o:=sO af aq aa ak 31) bk hb);replace HB:=k0 (aI bl hb);(try clear hb))|((with_reducible refine dx (f:=224) rfl ?_);refine dy (some 82) rfl rfl Try.func224 (by kernel_rfl) rfl #[.int .i64 t147,.int .i64 t125] rfl gm ?_;(with_reducible refine (wC.calls t147 t125 t148 _ an4.out).mono ?_);rintro e w' ⟨rfl,⟨nd,rfl⟩⟩;refine ⟨_,rfl,?_⟩)|((with_reducible refine ot (b:=.append) (xs:=#[.tmp 78,.tmp 83]) rfl ?_);at_builtin;refine Kd.sB (Kd.int .i64) (w0:=w) w.heap.size rfl (.tmp 78) (.tmp 83) 28 2 (.int .i64 0) 8 rfl Try.underlying28 alU rfl (by decide) (by omega) u12 cx t148 [.int .i64 t148] (fun k_=>some k_ ≠ (u8:Value).ownBlock) (fun _=>False) rfl rfl ?aP (fun _ hk=>hk.elim) ?aF ?aO ?aB ?aS ?aL ?_;(case aP=>exact rfl);(case aB=>exact bl);(case aF=>exact (fun k_ hk=>Kd.fresh' (Kd.cH (aR aZ.out)) k_ hk));(case aO=>exact (aR eL.out));(case aS=>exact (alk bl));(case aL=>have:=VQ.out;omega);intro akI TE ho hb hg bX;rw [← Wa.out] at ho;have aE:=k0 (Kd.sC (ok:=(fun k_=>some k_ ≠ (u8:Value).ownBlock∧some k_ ≠ (.slice MW sj.length OX:Value).ownBlock)) (by (with_reducible repeat (first|apply Kd.gK|apply Kd.alH|apply Kd.eW));exact Kd.iF alr.out (fun _ hk=>⟨⟨hk.1,hk.2.2⟩,hk.2.1⟩)) hg bX);have aH:=k0 (Kd.mz (ok:=(fun _=>True)) (by (with_reducible repeat (first|apply Kd.bH|apply Kd.bL|apply Kd.bn));exact Kd.alq aZ.out (fun _ hk=>⟨trivial,hk⟩)) hg bX);have aK:=k0 (Kd.sC (ok:=(fun k_=>some k_ ≠ (.slice amD alY.length qj:Value).ownBlock∧some k_ ≠ (u8:Value).ownBlock)) (by (with_reducible repeat (first|apply Kd.gK|apply Kd.alH|apply Kd.eW));exact Kd.iF mo.out (fun _ hk=>⟨⟨hk.1,hk.2.1⟩,hk.2.2⟩)) hg bX);have a_:=k0 (iQ (g:=ai) (o:=sO af aq aa ak 31) bk hg (Kd.gY eL.out ag.out (by decide)));have alp:=k0 (hb);have bw:=k0 (ho);clear alr;clear aZ;clear mo;clear ag;clear HB;clear eL;have alr:=aE;have aZ:=aH;have mo:=aK;have ag:=a_;have HB:=alp;have Vp:=bw;clear aE aH aK a_ alp bw;clear ho hb hg bX))
         (try simp only [← jR,← lR])
         go_roundg k3
         case measure=>have:=alj.out;have:=bB.out;have:=cN.out;omega
         case rel=>exact ⟨(alY),(aX),(TY),(wrap64 (jw+1)),rs,H',⟨by have:=alj.out;have:=bB.out;have:=cN.out;omega⟩,⟨by (try simp only [jR]);(try simp only [lR]);(with_reducible repeat (first|apply Kd.gK|apply Kd.alH|apply Kd.eW));exact Kd.iF alr.out (fun _ hk=>⟨hk.1.1,hk.2⟩)⟩,⟨by (try simp only [jR]);(try simp only [lR]);(with_reducible repeat (first|apply Kd.bH|apply Kd.bL|apply Kd.bn));exact Kd.alq aZ.out (fun _ hk=>hk.2)⟩,⟨by (try simp only [jR]);(try simp only [lR]);(with_reducible repeat (first|apply Kd.bH|apply Kd.bL|apply Kd.bn));exact Vp.out⟩,⟨by (try simp only [jR]);(try simp only [lR]);exact bk⟩,⟨bl⟩⟩
        rw [if_pos c37] at H
        have Jg:=decide_eq_true c37
        (try simp only [jR,lR] at Jg)
        clear c37
        replace H:=iS H;obtain ⟨c38,H⟩:=H
        have wV:=decide_eq_true c38
        clear c38
        replace H:=iS H;obtain ⟨c39,H⟩:=H
        have AA:=decide_eq_true c39
        (try simp only [jR,lR] at AA)
        clear c39
        replace H:=Option.bind_eq_some_iff.mp H
        obtain ⟨t139,ME,H⟩:=H
        replace H:(if kk < (aX.length:Int) then (if 0≤jw then (if jw < (t139.length:Int) then (if sj.length < 5864062014805 then (ct.l2 k3 l1 a2 alY aX t125 cx jw (sj ++ [(t139.set (jw:Int).toNat (rd aX kk))]) (ie.length:Int) jw (dB.length:Int) (wrap64 (kk+1)) af aa) else (none)) else (none)) else (none)) else (none))=some r:=H
        have lM:=k0 ME
        clear ME
        replace H:=iS H;obtain ⟨c41,H⟩:=H
        have yt:=decide_eq_true c41
        (try simp only [jR,lR] at yt)
        clear c41
        replace H:=iS H;obtain ⟨c42,H⟩:=H
        have wX:=decide_eq_true c42
        clear c42
        replace H:=iS H;obtain ⟨c43,H⟩:=H
        have OK:=decide_eq_true c43
        (try simp only [jR,lR] at OK)
        clear c43
        obtain ⟨Hi,D5⟩:∃ y_:List Int,y_=(t139.set (jw:Int).toNat (rd aX kk)):=⟨_,rfl⟩
        replace H:(if sj.length < 5864062014805 then (ct.l2 k3 l1 a2 alY aX t125 cx jw (sj ++ [Hi]) (ie.length:Int) jw (dB.length:Int) (wrap64 (kk+1)) af aa) else (none))=some r:=by first|(rw [D5];with_reducible exact H)|(have ax:=(Option.bind_some _ _).symm.trans H;rw [D5];with_reducible exact ax)|(have ax:=(Option.bind_some _ _).symm.trans H;with_reducible exact ax)|with_reducible exact H|(rw [D5];exact H)|exact H
        have V9:=k0 D5
        clear D5
        replace H:=iS H;obtain ⟨c45,H⟩:=H
        have VP:=k0 c45
        clear c45
        obtain ⟨TX,D6⟩:∃ y_:List (List Int),y_=(sj ++ [Hi]):=⟨_,rfl⟩
        replace H:(ct.l2 k3 l1 a2 alY aX t125 cx jw TX (ie.length:Int) jw (dB.length:Int) (wrap64 (kk+1)) af aa)=some r:=by first|(rw [D6];with_reducible exact H)|(have ax:=(Option.bind_some _ _).symm.trans H;rw [D6];with_reducible exact ax)|(have ax:=(Option.bind_some _ _).symm.trans H;with_reducible exact ax)|with_reducible exact H|(rw [D6];exact H)|exact H
        have V_:=k0 D6
        clear D6
        have H':=k0 H
        clear H
        have GN:0≤(kk:Int):=oD
        have GV:kk < (alY.length:Int):=oD
        obtain ⟨Ap,Hp,Jb,e138,ab7,Ry,Rg⟩:=cX (Kd.alw alr.out).2.2 kk GN GV
        cases e138
        obtain ⟨ag1,aas,aae,Qx⟩:=Kd.mB alr.out [] kk GN (by first|exact GV|exact oD|(have e_:=(Kd.alw alr.out).1;omega))
        obtain ⟨akX,rfl,JW⟩:=aae
        have DL:=Qx 0 _ rfl
        rw [Nat.add_zero,show ((Kd.slice 2 (Kd.int .i64))).sz=1 from rfl,Nat.mul_one] at DL
        replace DL:=Option.some.inj (DL.symm.trans ab7)
        rw [DL] at JW
        have wH:=k0 (show Kd.R (Kd.int .i64) 2 _ _ _ _ (ah alY kk) from JW)
        clear DL JW
        clear Qx aas
        have B2:=k0 Rg
        have U6:=k0 Ry
        clear Rg Ry
        replace GN:=eq_true GN
        replace GV:=eq_true GV
        go_wp2_with (first|((with_reducible refine dx (f:=151) rfl ?_);refine dy (some 65) rfl rfl Try.func151 (by kernel_rfl) rfl #[.slice Hp (ah alY kk).length Jb] rfl gm ?_;(with_reducible refine (kr.calls _ _ (ah alY kk) t139 _ ?aT ?aU lM.out).mono ?_);(case aT=>exact aC (by repeat (first|(with_reducible exact B2.out)|(with_reducible refine Kd.kQ ?_ _)|(with_reducible refine Kd.alZ ?_ _)|(with_reducible refine Kd.jZ ?_)|exact B2.out)));(case aU=>exact U6.out);rintro e BD ⟨akH,rfl,aM,hb⟩;refine ⟨_,rfl,?_⟩;replace alr:=k0 (Kd.kE (aS alr.out) (Kd.cn aM) hb);replace mo:=k0 (Kd.kE (aS mo.out) (Kd.cn aM) hb);have rE:=k0 (Kd.dI (Kd.ep (Kd.ep (Kd.ep aM (Kd.cH (aR aZ.out))) (Kd.cH (aR eL.out))) (Kd.cH (aR wH.out))) (alk bl));replace aZ:=k0 (Kd.alB (aR aZ.out) (Kd.cn aM) hb);replace eL:=k0 (Kd.alB (aR eL.out) (Kd.cn aM) hb);replace wH:=k0 (Kd.alB (aR wH.out) (Kd.cn aM) hb);replace ag:=k0 (alm (g:=ai) (o:=sO af aq aa ak 31) bk hb);replace B2:=k0 (Kd.bK (by repeat (first|(with_reducible exact B2.out)|(with_reducible refine Kd.kQ ?_ _)|(with_reducible refine Kd.alZ ?_ _)|(with_reducible refine Kd.jZ ?_)|exact B2.out)) hb);replace HB:=k0 (aI bl hb);(try clear hb);(try clear aM);obtain ⟨MV,al_,JH⟩:=Kd.eF aZ.out;subst JH;have LD:0≤(kk:Int):=oD;have LU:kk < (aX.length:Int):=oD;obtain ⟨sD,e142,aj'⟩:=Kd.bJ (Kd.bx aZ.out).2.2 kk LD LU;cases e142;replace LD:=eq_true LD;replace LU:=eq_true LU;have LL:0≤(jw:Int):=oD;have L1:(jw:Int) < ((t139.length:Int):Int):=oD;obtain ⟨ov,pM,O9,PJ,ZC,ahe,Nr⟩:=Kd.lp rE.out (by omega);(first|cases O9|(injection O9 with bh dm di;(first|subst bh|(injection bh with bh;subst bh));subst di;clear dm));have UQ:=k0 PJ;have afZ:=k0 Nr;clear PJ ZC Nr;obtain ⟨akc,ah8⟩:=Kd.jB 0 rE.out (jw:Int) LL L1;replace LL:=eq_true LL;replace L1:=eq_true L1;have n_:=k0 (Kd.alq (ok':=(fun k_=>some k_ ≠ (.slice (some sD) aX.length al_:Value).ownBlock∧some k_ ≠ (u12:Value).ownBlock∧some k_ ≠ (.slice Hp (ah alY kk).length Jb:Value).ownBlock)) rE.out (fun k_ hk=>⟨hk.1.1.2,⟨hk.1.2,hk.2⟩⟩));clear rE;have rE:=n_;clear n_;obtain ⟨akf,aki⟩:=Kd.jB 0 rE.out (jw:Int) oD oD;have Il:=Kd.kW rE.out (jw:Int) (rd aX kk))|((with_reducible refine lF (t:=2) (p:=72) rfl ?_);refine lJ (t:=2) (p:=72) (v:=?ak_) (w1:=(BD.setCell ⟨ov,(jw:Int).toNat,none⟩ (.int .i64 (rd aX kk)))) ?hg ?ho ?hn ?hr ?_;(case ho=>rfl);(case hg=>rfl);(case hn=>rfl);(case hr=>first|(go_simp;done)|(go_simp;rfl));intro Ml hw;have hg:BD.grownBy Ml (some ov):=(by rw [hw];exact Il.2);have ec:Kd.R (Kd.int .i64) 2 Ml w.heap.size (fun k_=>some k_ ≠ (.slice (some sD) aX.length al_:Value).ownBlock∧some k_ ≠ (u12:Value).ownBlock∧some k_ ≠ (.slice Hp (ah alY kk).length Jb:Value).ownBlock) (.slice (some ⟨ov,0,none⟩) t139.length pM) Hi:=(by rw [hw,V9.out];exact Il.1);clear Il;replace alr:=k0 (Kd.sC (v:=(.slice (some ⟨ov,0,none⟩) t139.length pM)) (v1:=(.slice (some ⟨ov,0,none⟩) t139.length pM)) (ok:=(fun k_=>some k_ ≠ (.slice (some sD) aX.length al_:Value).ownBlock∧some k_ ≠ (u12:Value).ownBlock∧some k_ ≠ (u14:Value).ownBlock)) (aS alr.out) hg (.inl rfl));replace aZ:=k0 (Kd.mz (v:=(.slice (some ⟨ov,0,none⟩) t139.length pM)) (v1:=(.slice (some ⟨ov,0,none⟩) t139.length pM)) (ok:=(fun k_=>some k_ ≠ (u12:Value).ownBlock)) (aR aZ.out) hg (.inl rfl));replace eL:=k0 (Kd.mz (v:=(.slice (some ⟨ov,0,none⟩) t139.length pM)) (v1:=(.slice (some ⟨ov,0,none⟩) t139.length pM)) (ok:=(fun k_=>some k_ ≠ (.slice (some sD) aX.length al_:Value).ownBlock)) (aR eL.out) hg (.inl rfl));replace mo:=k0 (Kd.sC (v:=(.slice (some ⟨ov,0,none⟩) t139.length pM)) (v1:=(.slice (some ⟨ov,0,none⟩) t139.length pM)) (ok:=(fun k_=>some k_ ≠ (.slice (some Ap) alY.length qj:Value).ownBlock∧some k_ ≠ (.slice (some sD) aX.length al_:Value).ownBlock∧some k_ ≠ (u12:Value).ownBlock)) (aS mo.out) hg (.inl rfl));replace ag:=k0 (iQ (g:=ai) (o:=sO af aq aa ak 31) bk hg (Kd.gY rE.out ag.out (by decide)));replace wH:=k0 (Kd.mz (v:=(.slice (some ⟨ov,0,none⟩) t139.length pM)) (v1:=(.slice (some ⟨ov,0,none⟩) t139.length pM)) (ok:=(fun k_=>some k_ ≠ (.slice (some Ap) alY.length qj:Value).ownBlock∧some k_ ≠ (.slice (some sD) aX.length al_:Value).ownBlock∧some k_ ≠ (u12:Value).ownBlock∧some k_ ≠ (u14:Value).ownBlock)) (by (with_reducible repeat (first|apply Kd.bH|apply Kd.bL|apply Kd.bn));exact Kd.alq wH.out (fun _ hk=>⟨⟨hk.1.2,⟨hk.1.1.1,⟨hk.1.1.2.1,hk.1.1.2.2⟩⟩⟩,hk.2⟩)) hg (.inl rfl));replace rE:=k0 (ec);replace HB:=k0 ((by rw [hw];exact dJ (HB.out) UQ.out:Below w.heap.size w Ml));clear hg hw ec)|((with_reducible refine ot (b:=.append) (xs:=#[.tmp 73,.tmp 75]) rfl ?_);at_builtin;refine Kd.ans (Kd.slice 2 (Kd.int .i64)) (w0:=w) w.heap.size rfl (.tmp 73) (.tmp 75) 22 28 (.slice none 0 0) 24 rfl Try.underlying22 xI rfl (by decide) (by omega) u14 sj Hi [.slice (some ⟨ov,0,none⟩) t139.length pM] (fun k_=>some k_ ≠ (.slice (some Ap) alY.length qj:Value).ownBlock∧some k_ ≠ (.slice (some sD) aX.length al_:Value).ownBlock∧some k_ ≠ (u12:Value).ownBlock) (fun k_=>some k_=(.slice (some ⟨ov,0,none⟩) t139.length pM:Value).ownBlock) rfl rfl ?aP (fun k_ j7=>((Kd.alq (ok':=fun k_=>((fun k_=>some k_ ≠ (.slice (some Ap) alY.length qj:Value).ownBlock∧some k_ ≠ (.slice (some sD) aX.length al_:Value).ownBlock∧some k_ ≠ (u12:Value).ownBlock)) k_∧some k_ ≠ (u14:Value).ownBlock) (Kd.mV (Kd.mV (rE.out) (Kd.lq alr.out) (by decide)) (Kd.lq mo.out) (by decide)) (fun k_ hk=>⟨⟨hk.1.2,⟨hk.1.1.1,hk.1.1.2.1⟩⟩,hk.2⟩))).1 k_ j7.symm) ?aF ?aO ?aB ?aS ?aL ?_;(case aP=>exact Kd.rJ (Kd.alq (Kd.vq rfl (Kd.alq (ok':=fun k_=>((fun k_=>some k_ ≠ (.slice (some Ap) alY.length qj:Value).ownBlock∧some k_ ≠ (.slice (some sD) aX.length al_:Value).ownBlock∧some k_ ≠ (u12:Value).ownBlock)) k_∧some k_ ≠ (u14:Value).ownBlock) (Kd.mV (Kd.mV (rE.out) (Kd.lq alr.out) (by decide)) (Kd.lq mo.out) (by decide)) (fun k_ hk=>⟨⟨hk.1.2,⟨hk.1.1.1,hk.1.1.2.1⟩⟩,hk.2⟩))) (fun _ h_=>h_)));(case aB=>exact bl);(case aF=>exact (fun k_ hk=>⟨Kd.fresh' (Kd.wP (aS alr.out)) k_ hk,Kd.fresh' (Kd.cH (aR aZ.out)) k_ hk,Kd.fresh' (Kd.cH (aR eL.out)) k_ hk⟩));(case aO=>exact (by (with_reducible repeat (first|apply Kd.gK|apply Kd.alH|apply Kd.eW));exact Kd.iF mo.out (fun k_ hk=>⟨⟨hk.1.1,⟨hk.1.2.1,hk.1.2.2⟩⟩,fun e_=>hk.2 e_⟩)));(case aS=>exact (alk bl));(case aL=>have:=VP.out;omega);intro v145 w50 ho hb hg bX;rw [← V_.out] at ho;have aE:=k0 (Kd.sC (ok:=(fun k_=>some k_ ≠ (.slice (some sD) aX.length al_:Value).ownBlock∧some k_ ≠ (u12:Value).ownBlock∧some k_ ≠ (.slice (some ⟨ov,0,none⟩) t139.length pM:Value).ownBlock)) (by (with_reducible repeat (first|apply Kd.gK|apply Kd.alH|apply Kd.eW));exact Kd.iF alr.out (fun _ hk=>⟨⟨hk.1.1,⟨hk.1.2.1,hk.2⟩⟩,hk.1.2.2⟩)) hg bX);have aH:=k0 (Kd.IZ (aR aZ.out) (Kd.lq (aS mo.out)) (by decide) hg);have aK:=k0 (Kd.IZ (aR eL.out) (Kd.lq (aS mo.out)) (by decide) hg);have a_:=k0 (iQ (g:=ai) (o:=sO af aq aa ak 31) bk hg (Kd.Aj mo.out ag.out (by decide)));have alp:=k0 (Kd.mz (ok:=(fun k_=>some k_ ≠ (.slice (some Ap) alY.length qj:Value).ownBlock∧some k_ ≠ (.slice (some sD) aX.length al_:Value).ownBlock∧some k_ ≠ (u12:Value).ownBlock∧some k_ ≠ (.slice (some ⟨ov,0,none⟩) t139.length pM:Value).ownBlock)) (by (with_reducible repeat (first|apply Kd.bH|apply Kd.bL|apply Kd.bn));exact Kd.alq wH.out (fun _ hk=>⟨⟨hk.1.1,⟨hk.1.2.1,⟨hk.1.2.2.1,hk.2⟩⟩⟩,hk.1.2.2.2⟩)) hg bX);have bw:=k0 (hb);have alx:=k0 (ho);clear alr;clear aZ;clear eL;clear ag;clear wH;clear HB;clear mo;clear rE;have alr:=aE;have aZ:=aH;have eL:=aK;have ag:=a_;have wH:=alp;have HB:=bw;have Vo:=alx;clear aE aH aK a_ alp bw alx;clear ho hb hg bX))
        (try simp only [← lR])
        go_roundg k3
        case measure=>have:=alj.out;have:=bB.out;have:=cN.out;omega
        case rel=>exact ⟨(alY),(aX),(cx),(TX),(wrap64 (kk+1)),rs,H',⟨by have:=alj.out;have:=bB.out;have:=cN.out;omega⟩,⟨by (try simp only [jR]);(try simp only [lR]);(with_reducible repeat (first|apply Kd.gK|apply Kd.alH|apply Kd.eW));exact Kd.iF alr.out (fun _ hk=>⟨hk.1.1,⟨hk.1.2.1,hk.2⟩⟩)⟩,⟨by (try simp only [jR]);(try simp only [lR]);(with_reducible repeat (first|apply Kd.bH|apply Kd.bL|apply Kd.bn));exact Kd.alq aZ.out (fun _ hk=>hk.1)⟩,⟨by (try simp only [jR]);(try simp only [lR]);(with_reducible repeat (first|apply Kd.bH|apply Kd.bL|apply Kd.bn));exact Kd.alq eL.out (fun _ hk=>hk.1)⟩,⟨by (try simp only [jR]);(try simp only [lR]);(with_reducible repeat (first|apply Kd.gK|apply Kd.alH|apply Kd.eW));exact Vo.out⟩,⟨by (try simp only [jR]);(try simp only [lR]);exact bk⟩,⟨bl⟩⟩
   rw [if_pos c13] at H
   have alV:=decide_eq_true c13
   clear c13
   replace H:=iS H;obtain ⟨c14,H⟩:=H
   have kH:=decide_eq_true c14
   clear c14
   replace H:=iS H;obtain ⟨c15,H⟩:=H
   have jD:=decide_eq_true c15
   clear c15
   by_cases c16:gp=a2
   case neg =>
    rw [if_neg c16] at H
    have qY:(gp == a2)=false:=beq_eq_false_iff_ne.mpr c16
    have Ax:(gp != a2)=true:=bne_iff_ne.mpr c16
    replace H:=Option.bind_eq_some_iff.mp H
    obtain ⟨t112,amB,H⟩:=H
    replace H:(if 0≤a2 then (if a2 < (t112.length:Int) then (if ie.length < 5864062014805 then (if gp < (l1.length:Int) then (if bg.length < 17592186044416 then (ct.l0 k1 l1 a2 (ie ++ [(t112.eraseIdx (a2:Int).toNat)]) (bg ++ [rd l1 gp]) t108 (t108.length:Int) (wrap64 (gp+1)) af aa) else (none)) else (none)) else (none)) else (none)) else (none))=some r:=H
    have sk:=k0 amB
    clear amB
    replace H:=iS H;obtain ⟨c18,H⟩:=H
    have qZ:=decide_eq_true c18
    clear c18
    replace H:=iS H;obtain ⟨c19,H⟩:=H
    have lC:=decide_eq_true c19
    clear c19
    obtain ⟨dU,gh⟩:∃ y_:List Int,y_=(t112.eraseIdx (a2:Int).toNat):=⟨_,rfl⟩
    replace H:(if ie.length < 5864062014805 then (if gp < (l1.length:Int) then (if bg.length < 17592186044416 then (ct.l0 k1 l1 a2 (ie ++ [dU]) (bg ++ [rd l1 gp]) t108 (t108.length:Int) (wrap64 (gp+1)) af aa) else (none)) else (none)) else (none))=some r:=by first|(rw [gh];with_reducible exact H)|(have ax:=(Option.bind_some _ _).symm.trans H;rw [gh];with_reducible exact ax)|(have ax:=(Option.bind_some _ _).symm.trans H;with_reducible exact ax)|with_reducible exact H|(rw [gh];exact H)|exact H
    have mT:=k0 gh
    clear gh
    replace H:=iS H;obtain ⟨c20,H⟩:=H
    have VL:=k0 c20
    clear c20
    obtain ⟨Mp,DW⟩:∃ y_:List (List Int),y_=(ie ++ [dU]):=⟨_,rfl⟩
    replace H:(if gp < (l1.length:Int) then (if bg.length < 17592186044416 then (ct.l0 k1 l1 a2 Mp (bg ++ [rd l1 gp]) t108 (t108.length:Int) (wrap64 (gp+1)) af aa) else (none)) else (none))=some r:=by first|(rw [DW];with_reducible exact H)|(have ax:=(Option.bind_some _ _).symm.trans H;rw [DW];with_reducible exact ax)|(have ax:=(Option.bind_some _ _).symm.trans H;with_reducible exact ax)|with_reducible exact H|(rw [DW];exact H)|exact H
    have V3:=k0 DW
    clear DW
    replace H:=iS H;obtain ⟨c21,H⟩:=H
    have uq:=decide_eq_true c21
    clear c21
    replace H:=iS H;obtain ⟨c22,H⟩:=H
    have VM:=k0 c22
    clear c22
    obtain ⟨TR,DY⟩:∃ y_:List Int,y_=(bg ++ [rd l1 gp]):=⟨_,rfl⟩
    replace H:(ct.l0 k1 l1 a2 Mp TR t108 (t108.length:Int) (wrap64 (gp+1)) af aa)=some r:=by first|(rw [DY];with_reducible exact H)|(have ax:=(Option.bind_some _ _).symm.trans H;rw [DY];with_reducible exact ax)|(have ax:=(Option.bind_some _ _).symm.trans H;with_reducible exact ax)|with_reducible exact H|(rw [DY];exact H)|exact H
    have V4:=k0 DY
    clear DY
    have H':=k0 H
    clear H
    have gj:0≤(gp:Int):=oD
    have alG:gp < (t108.length:Int):=oD
    obtain ⟨mW,EL,Fv,e111,gN,xB,xz⟩:=cX (Kd.alw kC.out).2.2 gp gj alG
    cases e111
    obtain ⟨XU,Kl,J',C1⟩:=Kd.mB kC.out [] gp gj (by first|exact alG|exact oD|(have e_:=(Kd.alw kC.out).1;omega))
    obtain ⟨afh,rfl,yE⟩:=J'
    have amt:=C1 0 _ rfl
    rw [Nat.add_zero,show ((Kd.slice 2 (Kd.int .i64))).sz=1 from rfl,Nat.mul_one] at amt
    replace amt:=Option.some.inj (amt.symm.trans gN)
    rw [amt] at yE
    have rD:=k0 (show Kd.R (Kd.int .i64) 2 _ _ _ _ (ah t108 gp) from yE)
    clear amt yE
    clear C1 Kl
    have wK:=k0 xz
    have anN:=k0 xB
    clear xz xB
    replace gj:=eq_true gj
    replace alG:=eq_true alG
    go_wp2_with (first|((with_reducible refine dx (f:=151) rfl ?_);refine dy (some 33) rfl rfl Try.func151 (by kernel_rfl) rfl #[.slice EL (ah t108 gp).length Fv] rfl gm ?_;(with_reducible refine (kr.calls _ _ (ah t108 gp) t112 _ ?aT ?aU sk.out).mono ?_);(case aT=>exact aC (by repeat (first|(with_reducible exact wK.out)|(with_reducible refine Kd.kQ ?_ _)|(with_reducible refine Kd.alZ ?_ _)|(with_reducible refine Kd.jZ ?_)|exact wK.out)));(case aU=>exact anN.out);rintro e ank ⟨akz,rfl,aM,hb⟩;refine ⟨_,rfl,?_⟩;replace alr:=k0 (Kd.kE (aS alr.out) (Kd.cn aM) hb);replace kC:=k0 (Kd.kE (aS kC.out) (Kd.cn aM) hb);have sw:=k0 (Kd.dI (Kd.ep (Kd.ep aM (Kd.cH (aR aZ.out))) (Kd.cH (aR rD.out))) (alk bl));replace aZ:=k0 (Kd.alB (aR aZ.out) (Kd.cn aM) hb);replace rD:=k0 (Kd.alB (aR rD.out) (Kd.cn aM) hb);replace ag:=k0 (alm (g:=ai) (o:=sO af aq aa ak 31) bk hb);replace wK:=k0 (Kd.bK (by repeat (first|(with_reducible exact wK.out)|(with_reducible refine Kd.kQ ?_ _)|(with_reducible refine Kd.alZ ?_ _)|(with_reducible refine Kd.jZ ?_)|exact wK.out)) hb);replace HB:=k0 (aI bl hb);(try clear hb);(try clear aM);obtain ⟨afR,al',YR⟩:=Kd.eF sw.out;subst YR;have n_:=k0 (Kd.alq (ok':=(fun k_=>some k_ ≠ (u8:Value).ownBlock∧some k_ ≠ (.slice EL (ah t108 gp).length Fv:Value).ownBlock)) sw.out (fun k_ hk=>⟨hk.1.2,hk.2⟩));clear sw;have sw:=n_;clear n_)|(go_at_call 222;have Q6:0≤(a2:Int):=oD;have Rh:(a2:Int) < (t112.length:Int):=oD;obtain ⟨ama,cap_,Za,_⟩:=Kd.lp sw.out (by omega);injection Za with bh dm di;subst bh;clear dm di;refine (Uy.calls _ ama t112.length al' t112 a2 w.heap.size w _ bl (alk bl) (aR sw.out) Q6 Rh).mono ?_;rintro e Mk ⟨rfl,ho,hb,hg⟩;clear Q6 Rh;rw [← mT.out] at ho;have RE:t112.length - 1=dU.length:=(by have:=(Kd.bx ho).1;omega);rw [RE] at ho ⊢;clear RE;replace alr:=k0 (Kd.sC (v:=(.slice (some ⟨ama,0,none⟩) t112.length al')) (v1:=.slice (some ⟨ama,0,none⟩) dU.length al') (ok:=(fun k_=>some k_ ≠ (u8:Value).ownBlock∧some k_ ≠ (.slice (some mW) t108.length g_:Value).ownBlock)) (aS alr.out) hg (.inl rfl));replace aZ:=k0 (Kd.mz (v:=(.slice (some ⟨ama,0,none⟩) t112.length al')) (v1:=.slice (some ⟨ama,0,none⟩) dU.length al') (ok:=(fun _=>True)) (aR aZ.out) hg (.inl rfl));replace kC:=k0 (Kd.sC (v:=(.slice (some ⟨ama,0,none⟩) t112.length al')) (v1:=.slice (some ⟨ama,0,none⟩) dU.length al') (ok:=(fun k_=>some k_ ≠ (u7:Value).ownBlock∧some k_ ≠ (u8:Value).ownBlock)) (aS kC.out) hg (.inl rfl));replace ag:=k0 (iQ (g:=ai) (o:=sO af aq aa ak 31) bk hg (Kd.gY sw.out ag.out (by decide)));replace rD:=k0 (Kd.mz (v:=(.slice (some ⟨ama,0,none⟩) t112.length al')) (v1:=.slice (some ⟨ama,0,none⟩) dU.length al') (ok:=(fun k_=>some k_ ≠ (u7:Value).ownBlock∧some k_ ≠ (u8:Value).ownBlock∧some k_ ≠ (.slice (some mW) t108.length g_:Value).ownBlock)) (by (with_reducible repeat (first|apply Kd.bH|apply Kd.bL|apply Kd.bn));exact Kd.alq rD.out (fun _ hk=>⟨⟨hk.1.1.1,⟨hk.1.1.2,hk.1.2⟩⟩,hk.2⟩)) hg (.inl rfl));replace sw:=k0 (ho);replace HB:=k0 (hb);clear ho hb hg)|((with_reducible refine ot (b:=.append) (xs:=#[.tmp 31,.tmp 38]) rfl ?_);at_builtin;refine Kd.ans (Kd.slice 2 (Kd.int .i64)) (w0:=w) w.heap.size rfl (.tmp 31) (.tmp 38) 22 28 (.slice none 0 0) 24 rfl Try.underlying22 xI rfl (by decide) (by omega) u7 ie dU [.slice (some ⟨ama,0,none⟩) dU.length al'] (fun k_=>some k_ ≠ (u8:Value).ownBlock∧some k_ ≠ (.slice (some mW) t108.length g_:Value).ownBlock) (fun k_=>some k_=(.slice (some ⟨ama,0,none⟩) dU.length al':Value).ownBlock) rfl rfl ?aP (fun k_ j7=>((Kd.alq (ok':=fun k_=>((fun k_=>some k_ ≠ (u8:Value).ownBlock∧some k_ ≠ (.slice (some mW) t108.length g_:Value).ownBlock)) k_∧some k_ ≠ (u7:Value).ownBlock) (Kd.mV (Kd.mV (sw.out) (Kd.lq kC.out) (by decide)) (Kd.lq alr.out) (by decide)) (fun k_ hk=>⟨⟨hk.1.1.1,hk.1.2⟩,hk.2⟩))).1 k_ j7.symm) ?aF ?aO ?aB ?aS ?aL ?_;(case aP=>exact Kd.rJ (Kd.alq (Kd.vq rfl (Kd.alq (ok':=fun k_=>((fun k_=>some k_ ≠ (u8:Value).ownBlock∧some k_ ≠ (.slice (some mW) t108.length g_:Value).ownBlock)) k_∧some k_ ≠ (u7:Value).ownBlock) (Kd.mV (Kd.mV (sw.out) (Kd.lq kC.out) (by decide)) (Kd.lq alr.out) (by decide)) (fun k_ hk=>⟨⟨hk.1.1.1,hk.1.2⟩,hk.2⟩))) (fun _ h_=>h_)));(case aB=>exact bl);(case aF=>exact (fun k_ hk=>⟨Kd.fresh' (Kd.cH (aR aZ.out)) k_ hk,Kd.fresh' (Kd.wP (aS kC.out)) k_ hk⟩));(case aO=>exact (by (with_reducible repeat (first|apply Kd.gK|apply Kd.alH|apply Kd.eW));exact Kd.iF alr.out (fun k_ hk=>⟨⟨hk.1.1,hk.1.2⟩,fun e_=>hk.2 e_⟩)));(case aS=>exact (alk bl));(case aL=>have:=VL.out;omega);intro Tp zH ho hb hg bX;rw [← V3.out] at ho;have aE:=k0 (Kd.IZ (aR aZ.out) (Kd.lq (aS alr.out)) (by decide) hg);have aH:=k0 (Kd.sC (ok:=(fun k_=>some k_ ≠ (u8:Value).ownBlock∧some k_ ≠ (.slice (some ⟨ama,0,none⟩) dU.length al':Value).ownBlock)) (by (with_reducible repeat (first|apply Kd.gK|apply Kd.alH|apply Kd.eW));exact Kd.iF kC.out (fun _ hk=>⟨⟨hk.1.2,hk.2⟩,hk.1.1⟩)) hg bX);have aK:=k0 (iQ (g:=ai) (o:=sO af aq aa ak 31) bk hg (Kd.Aj alr.out ag.out (by decide)));have a_:=k0 (Kd.mz (ok:=(fun k_=>some k_ ≠ (u8:Value).ownBlock∧some k_ ≠ (.slice (some mW) t108.length g_:Value).ownBlock∧some k_ ≠ (.slice (some ⟨ama,0,none⟩) dU.length al':Value).ownBlock)) (by (with_reducible repeat (first|apply Kd.bH|apply Kd.bL|apply Kd.bn));exact Kd.alq rD.out (fun _ hk=>⟨⟨hk.1.2.1,⟨hk.1.2.2,hk.2⟩⟩,hk.1.1⟩)) hg bX);have alp:=k0 (hb);have bw:=k0 (ho);clear aZ;clear kC;clear ag;clear rD;clear HB;clear alr;clear sw;have aZ:=aE;have kC:=aH;have ag:=aK;have rD:=a_;have HB:=alp;have E5:=bw;clear aE aH aK a_ alp bw;clear ho hb hg bX;have amy:0≤(gp:Int):=oD;have we:gp < (l1.length:Int):=oD;obtain ⟨I6,e121,zh⟩:=Kd.bJ eP.out gp amy we;cases e121;replace zh:=hbc HB zh;replace amy:=eq_true amy;replace we:=eq_true we)|((with_reducible refine ot (b:=.append) (xs:=#[.tmp 40,.tmp 45]) rfl ?_);at_builtin;refine Kd.sB (Kd.int .i64) (w0:=w) w.heap.size rfl (.tmp 40) (.tmp 45) 28 2 (.int .i64 0) 8 rfl Try.underlying28 alU rfl (by decide) (by omega) u8 bg (rd l1 gp) [.int .i64 (rd l1 gp)] (fun _=>True) (fun _=>False) rfl rfl ?aP (fun _ hk=>hk.elim) ?aF ?aO ?aB ?aS ?aL ?_;(case aP=>exact rfl);(case aB=>exact bl);(case aF=>exact (fun _ _=>trivial));(case aO=>exact (by (with_reducible repeat (first|apply Kd.bH|apply Kd.bL|apply Kd.bn));exact Kd.alq aZ.out (fun _ hk=>trivial)));(case aS=>exact (alk bl));(case aL=>have:=VM.out;omega);intro afe ju ho hb hg bX;rw [← V4.out] at ho;have aE:=k0 (Kd.sC (ok:=(fun k_=>some k_ ≠ (Tp:Value).ownBlock)) (by (with_reducible repeat (first|apply Kd.gK|apply Kd.alH|apply Kd.eW));exact Kd.iF kC.out (fun _ hk=>⟨hk.2,hk.1.1⟩)) hg bX);have aH:=k0 (iQ (g:=ai) (o:=sO af aq aa ak 31) bk hg (Kd.gY aZ.out ag.out (by decide)));have aK:=k0 (Kd.mz (ok:=(fun k_=>some k_ ≠ (.slice (some mW) t108.length g_:Value).ownBlock∧some k_ ≠ (Tp:Value).ownBlock)) (by (with_reducible repeat (first|apply Kd.bH|apply Kd.bL|apply Kd.bn));exact Kd.alq rD.out (fun _ hk=>⟨⟨hk.1.2.1,hk.2⟩,hk.1.1⟩)) hg bX);have a_:=k0 (Kd.sC (ok:=(fun k_=>some k_ ≠ (.slice (some mW) t108.length g_:Value).ownBlock)) (by (with_reducible repeat (first|apply Kd.gK|apply Kd.alH|apply Kd.eW));exact Kd.iF E5.out (fun _ hk=>⟨hk.2,hk.1⟩)) hg bX);have alp:=k0 (hb);have bw:=k0 (ho);clear kC;clear ag;clear rD;clear E5;clear HB;clear aZ;have kC:=aE;have ag:=aH;have rD:=aK;have E5:=a_;have HB:=alp;have H9:=bw;clear aE aH aK a_ alp bw;clear ho hb hg bX))
    go_roundg k1
    case measure=>have:=alj.out;omega
    case rel=>exact ⟨(Mp),(TR),(wrap64 (gp+1)),rs,H',⟨by have:=alj.out;omega⟩,⟨aS (Kd.iF E5.out (fun _ hk=>⟨hk.2,hk.1⟩))⟩,⟨aR (H9.out)⟩,⟨aS (kC.out)⟩,⟨bk⟩,⟨bl⟩⟩
   rw [if_pos c16] at H
   have qY:(gp == a2)=true:=beq_iff_eq.mpr c16
   have Ax:(gp != a2)=false:=bne_eq_false_iff_eq.mpr c16
   clear c16
   have H':=k0 H
   clear H
   have gj:0≤(gp:Int):=oD
   have alG:gp < (t108.length:Int):=oD
   obtain ⟨mW,EL,Fv,e111,gN,xB,xz⟩:=cX (Kd.alw kC.out).2.2 gp gj alG
   cases e111
   obtain ⟨XU,Kl,J',C1⟩:=Kd.mB kC.out [] gp gj (by first|exact alG|exact oD|(have e_:=(Kd.alw kC.out).1;omega))
   obtain ⟨afh,rfl,yE⟩:=J'
   have amt:=C1 0 _ rfl
   rw [Nat.add_zero,show ((Kd.slice 2 (Kd.int .i64))).sz=1 from rfl,Nat.mul_one] at amt
   replace amt:=Option.some.inj (amt.symm.trans gN)
   rw [amt] at yE
   have rD:=k0 (show Kd.R (Kd.int .i64) 2 _ _ _ _ (ah t108 gp) from yE)
   clear amt yE
   clear C1 Kl
   have wK:=k0 xz
   have anN:=k0 xB
   clear xz xB
   replace gj:=eq_true gj
   replace alG:=eq_true alG
   go_wp2
   go_roundg k1
   case measure=>have:=alj.out;omega
   case rel=>exact ⟨(ie),(bg),(wrap64 (gp+1)),rs,H',⟨by have:=alj.out;omega⟩,⟨aS (alr.out)⟩,⟨aR (aZ.out)⟩,⟨aS (kC.out)⟩,⟨bk⟩,⟨bl⟩⟩
/-! ### F226: function 226 -/
theorem mul_one (n:Nat) (hn:n < 4294967296) (w:World):Calls Try.prog 241 #[.int .u64 1,.int .u64 n] w fun e w'=>e=.returned (.tuple #[.int .u64 0,.int .u64 n])∧w'=w:=by
 have m1:bits .and .u64 (1:Int) 4294967295=1:=by rfl
 have m2:=Mul64.maskN n (by omega)
 rw [Nat.mod_eq_of_lt hn] at m2
 have m3:(1:Int) / 4294967296=0:=by decide
 have m4:(n:Int) / 4294967296=0:=by omega
 have m5:=Mul64.wrapN n (by omega)
 have m6:bits .and .u64 (0:Int) 4294967295=0:=by rfl
 have m7:IntKind.u64.wrap 0=0:=by rfl
 go_enter Try.func241,Try.ntmps241
 go_wp2
 go_ret2
 exact ⟨rfl,rfl⟩
def xW (x:Int) (n m g:Nat) (wr:World):Prop:=∃ cur:Array Value,wr.heap[g]?=some (.cells cur 2 (0,0))∧cur.size=n∧cur.toList.take m=List.replicate m (.int .i64 x)
theorem GX {x:Int} {n m g:Nat} {wr:World} (h:xW x n m g wr):xW x n m g wr.drew:=h
theorem Es {x:Int} {n m g:Nat} {wr:World} (h:xW x n m g wr) (j:Nat) (hj:j < n):(wr.cell? ⟨g,j,none⟩).isSome=true∧wr.frozen? ⟨g,j,none⟩=false∧(j < m→wr.cell? ⟨g,j,none⟩=some (.int .i64 x)):=by
 obtain ⟨cur,h1,h2,h3⟩:=h
 refine ⟨?_,aD h1 j,fun hm=>?_⟩
 ·rw [av h1 j,Array.getElem?_eq_getElem (by omega)];rfl
 ·rw [av h1 j]
  have h4:(cur.toList.take m)[j]?=some (.int .i64 x):=by rw [h3,List.getElem?_replicate,if_pos hm]
  rw [List.getElem?_take,if_pos hm] at h4
  simpa using h4
theorem S6 {x:Int} {n m g k:Nat} {wr:World} (h:xW x n m g wr) (hk:m+k≤n):xW x n (m+k) g (wr.setCells g m (List.replicate k (.int .i64 x))):=by
 obtain ⟨cur,h1,h2,h3⟩:=h
 obtain ⟨cur',h4,h5,h6⟩:=uP (List.replicate k (.int .i64 x)) m wr cur h1 (by rw [List.length_replicate];omega)
 refine ⟨cur',h4,by omega,?_⟩
 rw [h6,h3,List.length_replicate,List.append_assoc,List.take_append,List.length_replicate,List.take_of_length_le (by rw [List.length_replicate];omega),List.take_append,List.length_replicate,List.take_of_length_le (by rw [List.length_replicate];omega)]
 rw [show m+k - m - k=0 by omega,List.take_zero,List.append_nil,List.replicate_append_replicate]
theorem below_setCells {g : Nat} {w0 : World} (hg : w0.heap.size ≤ g) : ∀ (vs : List Value) (o : Nat) (w : World), Below w0.heap.size w0 w → Below w0.heap.size w0 (w.setCells g o vs)
 | [],_,_,h=>h
 | v :: r,o,w,h=>below_setCells hg r (o+1) _ (dJ h hg)
set_option maxHeartbeats 8000000 in
set_option maxRecDepth 100000 in
theorem aeo (x : Int) (n : Nat) (h1 : 1 ≤ n) (hn : n ≤ 1048576) (A : Option Addr) (c : Nat) (w : World) (hr : Kd.C (Kd.int .i64) w A 1 [x]) :
  Calls Try.prog 226 #[.slice A 1 c,.int .i64 n] w fun e w'=>∃ v,e=.returned v∧Kd.R (Kd.int .i64) 2 w' w.heap.size (fun _=>True) v (List.replicate n x)∧Below w.heap.size w w':=by
 obtain ⟨ad,e,hcell⟩:=Kd.bJ hr 0 (by omega) (by simp)
 cases e
 have hmul:=fun w=>mul_one n (by omega) w
 have HM:=k0 hmul
 clear hmul
 have hmk:=ad9 (P:=Try.prog) 28 2 .i64 8 Try.underlying28 alU (by decide) n (by omega)
 have hneg:decide ((n:Int) < 0)=false:=decide_eq_false (by omega)
 have abF:decide ((n:Int) > 9223372036854775807)=false:=decide_eq_false (by omega)
 have w1:=Mul64.wrapN n (by omega)
 obtain ⟨W0,CV⟩:∃ W0,W0=w.alloc (.cells (madeCells #[.int .i64 0] n) 2):=⟨_,rfl⟩
 have Qg:W0.heap[w.heap.size]?=some (.cells (madeCells #[.int .i64 0] n) 2 (0,0)):=by rw [CV];exact heap_alloc_new w _
 have cS:xW x n 0 w.heap.size W0:=⟨_,Qg,size_madeCells _ _,by simp⟩
 have J3:Below w.heap.size w W0:=by rw [CV];exact dh (Below.refl _ _) _
 have hsz:(Try.prog.info? 2).map (·.size)=some 1:=by
  obtain ⟨i0,r7,_,hs,_⟩:=info_parts alU
  rw [r7];simp [hs]
 have hsrc:W0.cell? ad=some (.int .i64 x):=by
  have h0:ad.add (0:Int).toNat=ad:=by cases ad;simp [Addr.add]
  have h:=(J3.cell (World.block_lt_of_cell? w _ hcell)).trans hcell
  rw [h0] at h
  exact h
 have Kn:∀ ty,(Builtin.copy_ #[28,28] ty #[.slice (some ⟨w.heap.size,0,none⟩) n n,.slice (some ad) 1 c]).run Try.prog W0=.ok (goInt 1) (W0.setCells w.heap.size 0 [.int .i64 x]):=fun ty=>by
  have h := run_copy_cells (P := Try.prog) W0 28 28 ty 2 w.heap.size 0 n n ad 1 c [.int .i64 x] Try.underlying28 hsz (by show 1 = Nat.min 1 n; simp only [Nat.min_def]; split <;> omega)
   (fun j v hj=>by
    obtain rfl:j=0:=by have:=(List.getElem?_eq_some_iff.1 hj).1;simpa using this
    simp at hj
    rw [← hj]
    simpa [Addr.add] using hsrc) (fun j hj=>by rw [Nat.zero_add];exact (Es cS j (by simp at hj;omega)).1) (fun j hj=>by rw [Nat.zero_add];exact (Es cS j (by simp at hj;omega)).2.1) (fun v hv=>by simp at hv;rw [hv];rfl)
  exact h
 have eP:=k0 (S6 (k:=1) cS (by omega))
 have kS:=k0 (below_setCells (g:=w.heap.size) (Nat.le_refl _) [.int .i64 x] 0 W0 J3)
 rw [CV] at Kn
 rw [CV] at eP kS
 clear CV Qg cS J3 hsrc W0
 have NP:=k0 hsz
 have alR:=k0 Kn
 clear hsz Kn
 go_enter Try.func226,Try.ntmps226
 go_wp2_with (first|(go_at_call 241;refine (HM.out _).mono ?_;rintro e w_ ⟨rfl,h_⟩;rw [h_];clear h_ w_)|(at_builtin;refine wpList_copy_runI _ rfl _ _ 28 28 rfl _ _ rfl rfl (alR.out _) ?_)|(simp only [alR.out];done)|(rw [alR.out]))
 generalize ow:(w.alloc (Obj.cells (madeCells #[Value.int IntKind.i64 0] n) 2)).setCells w.heap.size 0 [Value.int IntKind.i64 x]=W1
 have P_:xW x n 1 w.heap.size W1:=by rw [← ow];exact eP.out
 have CR:Below w.heap.size w W1:=by rw [← ow];exact kS.out
 clear eP kS alR ow HM hmk
 have eP:=k0 P_
 have kS:=k0 CR
 clear P_ CR
 go_loopw [8] (fun v wr=>∃ m:Nat,1≤m∧m≤n∧v=.int .i64 m∧au (xW x n m w.heap.size wr)∧au (Below w.heap.size w wr)) (fun v _=>n - (intOf v).toNat)
 case atStart=>exact ⟨1,Nat.le_refl _,h1,rfl,eP,kS⟩
 case round =>
  obtain ⟨m,RB,hmn,rfl,HR,HB⟩:=hrel
  by_cases hlt:m < n
  case neg =>
   have hnm:m=n:=by omega
   subst hnm
   have hb:decide ((m:Int) < (m:Int))=false:=decide_eq_false (by omega)
   go_wp2
   go_ret
   obtain ⟨cur,e1,e2,e3⟩:=HR.out
   refine ⟨_,rfl,Kd.Af ⟨?_,.inr ⟨w.heap.size,m,cur,?_,Nat.le_refl _,e1,?_,?_,?_,?_⟩⟩ (fun _ _=>trivial),HB.out⟩
   ·simp [fl]
   ·simp
   ·rw [List.length_replicate];exact Nat.le_refl _
   ·unfold maxLen;omega
   ·omega
   ·rw [List.length_replicate,Nat.mul_one,e3];simp [fl]
  have hb:decide ((m:Int) < (n:Int))=true:=decide_eq_true (by omega)
  have Bg:(0:Int)≤(m:Int):=by omega
  have zc:(m:Int)≤(n:Int):=by omega
  have hq3:¬ (n=m):=by omega
  have hq4:m≤n:=hmn
  obtain ⟨k,hk⟩:∃ k,k=Nat.min m (n - m):=⟨_,rfl⟩
  have amX:1≤k∧m+k≤n:=by rw [hk];simp only [Nat.min_def];split<;>omega
  have hkm:k≤m:=by rw [hk];simp only [Nat.min_def];split<;>omega
  have QE:∀ ty,(Builtin.copy_ #[28,28] ty #[.slice (some ⟨w.heap.size,m,none⟩) (n - m) (n - m),.slice (some ⟨w.heap.size,0,none⟩) m n]).run Try.prog wr.drew=.ok (goInt k) (wr.drew.setCells w.heap.size m (List.replicate k (.int .i64 x))):=fun ty=>by
   have h := run_copy_cells (P := Try.prog) wr.drew 28 28 ty 2 w.heap.size m (n - m) (n - m) ⟨w.heap.size, 0, none⟩ m n (List.replicate k (.int .i64 x)) Try.underlying28 NP.out (by rw [List.length_replicate]; exact hk)
    (fun j v hj=>by
     have hj2:j < k:=by have:=(List.getElem?_eq_some_iff.1 hj).1;simpa using this
     rw [List.getElem?_replicate,if_pos hj2] at hj
     injection hj with hj
     rw [← hj]
     have h5:=(Es (GX HR.out) j (by omega)).2.2 (by omega)
     rw [Addr.add_lit,Nat.zero_add]
     exact h5)
    (fun j hj=>(Es (GX HR.out) (m+j) (by rw [List.length_replicate] at hj;omega)).1)
    (fun j hj=>(Es (GX HR.out) (m+j) (by rw [List.length_replicate] at hj;omega)).2.1)
    (fun v hv=>by rw [List.eq_of_mem_replicate hv];rfl)
   rwa [List.length_replicate] at h
  have HC:=k0 QE
  have yb:=k0 (S6 (k:=k) (GX HR.out) amX.2)
  have fc:=k0 (below_setCells (g:=w.heap.size) (Nat.le_refl _) (List.replicate k (.int .i64 x)) m wr.drew (wS HB.out))
  have hw1:IntKind.i64.wrap ((m:Int)+(k:Int))=((m+k:Nat):Int):=by rw [IntKind.wrap_i64];omega
  clear QE hk hlt HR HB eP kS NP
  have mixed:Try.prog.follows Departure.mixedOrders=true:=by kernel_rfl
  go_wp2
  go_region_law_o (refine step_copy_runI rfl _ _ 28 28 rfl _ _ (by simp [Act.eval,Act.put]) (by simp [Act.eval,Act.put]) (HC.out _) ?_)
  go_wp2
  go_simp
  go_roundw
  case rel=>exact ⟨m+k,by omega,amX.2,by omega,yb⟩
  case measure=>simp [intOf];omega
def wD.f (l0:List Int) (a1:Int):Option (List Int):=if l0.length=1∧1≤a1∧a1≤1048576 then some (List.replicate a1.toNat (rd l0 0)) else none
set_option maxHeartbeats 8000000 in
set_option maxRecDepth 100000 in
theorem wD.calls (A0 : Option Addr) (c0 : Nat) (l0 : List Int) (a1 : Int) (r : List Int) (w : World) (cS : Kd.C (Kd.int .i64) w A0 l0.length l0) (hc0 : l0.length ≤ c0) (h : wD.f l0 a1 = some r) :
  Calls Try.prog 226 #[.slice A0 l0.length c0,.int .i64 a1] w fun e w'=>∃ dH:Value,e=.returned (dH)∧Kd.R (Kd.int .i64) 2 w' w.heap.size (fun _=>True) dH r∧Below w.heap.size w w':=by
 unfold wD.f at h
 by_cases c2:l0.length=1∧1≤a1∧a1≤1048576
 case neg =>
  rw [if_neg c2] at h
  exact absurd h (by simp)
 rw [if_pos c2] at h
 obtain rfl:=Option.some.inj h
 obtain ⟨x,rfl⟩:=List.length_eq_one_iff.1 c2.1
 obtain ⟨n,rfl⟩:∃ n:Nat,a1=n:=⟨a1.toNat,by omega⟩
 exact aeo x n (by omega) (by omega) A0 c0 w cS
end Go.Proofs.Ytoebojnhchocaaa.D
/- Set with little white space, by a program. -/
