/- The functions that one law reaches, each as a Lean function, and that Go's call comes to what it says. Condition of each: that the Lean function answers (is not none). -/
import Derived.Test.YtoebojnhchocaaaBx0
import Derived.Test.YtoebojnhchocaaaBx12
import Derived.Test.YtoebojnhchocaaaBx13
import Derived.Test.YtoebojnhchocaaaBx14
import Derived.Test.YtoebojnhchocaaaBx15
namespace Go.Proofs.Ytoebojnhchocaaa.B
open Go.RowKit Go.Proofs.bC.eg Go.Proofs.bC.iZ Go.Proofs.bC.jr
attribute [local go_sem] max2_int min2_int max_two min_two max_three min_three max_four min_four   -- for this text's walks alone
set_option linter.unusedVariables false
set_option linter.unusedSimpArgs false
/-! ### F224: function 224 -/
def amM.f (a0:Int) (a1:Int):Option (Int):=if a0 < 0 then (if a1=0 then (none) else (some (wrap64 (-(wrap64 (Int.tdiv (wrap64 ((wrap64 ((wrap64 (-a0))+a1)) - 1)) a1)))))) else (if a1=0 then (none) else (some (wrap64 (Int.tdiv a0 a1))))
set_option maxHeartbeats 8000000 in
set_option maxRecDepth 100000 in
theorem amM.calls (a0 : Int) (a1 : Int) (r : Int) (w : World) (h : amM.f a0 a1 = some r) :
  Calls Try.prog 224 #[.int .i64 a0,.int .i64 a1] w fun e w'=>e=.returned (.int .i64 r)∧als w w':=by
 have H:(if a0 < 0 then (if a1=0 then (none) else (some (wrap64 (-(wrap64 (Int.tdiv (wrap64 ((wrap64 ((wrap64 (-a0))+a1)) - 1)) a1)))))) else (if a1=0 then (none) else (some (wrap64 (Int.tdiv a0 a1)))))=some r:=h
 clear h
 by_cases c3:a0 < 0
 case neg =>
  rw [if_neg c3] at H
  have ja:decide (a0 < 0)=false:=decide_eq_false c3
  clear c3
  by_cases c5:a1=0
  case neg =>
   rw [if_neg c5] at H
   have jb:(a1 == 0)=false:=beq_eq_false_iff_ne.mpr c5
   have vU:(a1 != 0)=true:=bne_iff_ne.mpr c5
   obtain rfl:=Option.some.inj H
   go_enter Try.func224,Try.ntmps224
   go_wp2
   go_ret
   exact ⟨by first|rfl|(simp;done)|(simp [*];done),by repeat (first|exact als.refl _|apply als.step)⟩
  rw [if_pos c5] at H
  exact absurd H (by simp)
 rw [if_pos c3] at H
 have ja:=decide_eq_true c3
 clear c3
 by_cases c4:a1=0
 case neg =>
  rw [if_neg c4] at H
  have eV:(a1 == 0)=false:=beq_eq_false_iff_ne.mpr c4
  have ow:(a1 != 0)=true:=bne_iff_ne.mpr c4
  obtain rfl:=Option.some.inj H
  go_enter Try.func224,Try.ntmps224
  go_wp2
  go_ret
  exact ⟨by first|rfl|(simp;done)|(simp [*];done),by repeat (first|exact als.refl _|apply als.step)⟩
 rw [if_pos c4] at H
 exact absurd H (by simp)
-- NOT PRINTED: function 239 (slices_overlaps_int64)
/-! ### F250: function 250 -/
def iW.l0 : Nat → List Int → Int → Int → Option (List Int)
 | 0,_,_,_=>none
 | k+1,x0,x2,x3=>if x2 < x3 then (if 0≤x3 then (if x3 < (x0.length:Int) then (if 0≤x2 then (if x2 < (x0.length:Int) then (iW.l0 k ((x0.set (x2:Int).toNat (rd x0 x3)).set (x3:Int).toNat (rd x0 x2)) (wrap64 (x2+1)) (wrap64 (x3 - 1))) else (none)) else (none)) else (none)) else (none)) else (some x0)
def iW.f (k:Nat) (l0:List Int):Option (List Int):=iW.l0 k l0 0 (wrap64 ((l0.length:Int) - 1))
theorem iW.cj : ∀ k, (∀ y0 y1 y2, aj (iW.l0 k y0 y1 y2) (iW.l0 (k + 1) y0 y1 y2))
 | 0=>fun _ _ _ r h=>by simp [iW.l0] at h
 | k+1=>by
  have ali:=iW.cj k
  ·intro y0 y1 y2
   unfold iW.l0
   repeat' first
    | (with_reducible first|exact ali _ _ _|exact aj.refl _|exact aj.none _|refine aj.ite ?_ ?_|refine aj.bind ?_ (fun _=>?_))
    | exact ali _ _ _|exact aj.none _|refine aj.ite ?_ ?_|refine aj.bind ?_ (fun _=>?_)
theorem iW.mono:∀ a0 k,aj (iW.f k a0) (iW.f (k+1) a0):=by
 intro a0 k
 have ali:=iW.cj k
 unfold iW.f
 repeat' first
  | (with_reducible first|exact ali _ _ _|exact aj.refl _|exact aj.none _|refine aj.ite ?_ ?_|refine aj.bind ?_ (fun _=>?_))
  | exact ali _ _ _|exact aj.none _|refine aj.ite ?_ ?_|refine aj.bind ?_ (fun _=>?_)
def iW.T3:Bool × List (List Nat × List Nat):=(true,[([],[]),([],[]),([],[]),([],[]),([],[]),([],[]),([4,5],[4,5]),([6],[6]),([],[]),([],[]),([8,9],[8,9]),([10],[10]),([0,1,0,1,4,5,6,7,11],[0,1]),([12,7,0,1,4,5,6,7,11],[7,12]),([2,3,0,1,2,3,4,5,6,7,8,9,10,11,12,13],[2,3]),([14,11,13,0,1,2,3,4,5,6,7,8,9,10,11,12,13],[11,14])])
def iW.B3:List Nat:=[0,0,0,0,0,0,48,112,0,0,768,1792,4083,8179,16383,32767]
theorem iW.aeX:gY .any (opsOf Try.f250 3)=iW.T3:=by kernel_rfl
theorem iW.W5:nV iW.T3.2 iW.B3=true:=by kernel_rfl
set_option maxHeartbeats 8000000 in
set_option maxRecDepth 100000 in
theorem iW.calls (k : Nat) (iY : Nat → Prop) (vn : Value) (l0 : List Int) (r : List Int) (w0 w : World) (hB : Below w0.heap.size w0 w) (aY : Kd.R (Kd.int .i64) 2 w w0.heap.size iY vn l0) (h : iW.f k l0 = some r) :
  Calls Try.prog 250 #[vn] w fun e w'=>e=.returned (.tuple #[])∧Kd.R (Kd.int .i64) 2 w' w0.heap.size (fun k_=>(iY k_∨w.heap.size≤k_)) vn r∧Below w0.heap.size w0 w'∧Kept w w' (fun k_=>iY k_):=by
 have ES:=k0 (show Kd.R (Kd.int .i64) 2 w w0.heap.size (fun k_=>(iY k_∨w.heap.size≤k_)) vn l0 from Kd.bx aY (fun k_ hk=>(.inl hk)))
 have HK:=k0 (Kept.refl w (fun k_=>iY k_))
 have Vx:=k0 hB.size
 have HB:=k0 hB
 clear hB
 have H:(iW.l0 k l0 0 (wrap64 ((l0.length:Int) - 1)))=some r:=h
 clear h
 have H':=k0 H
 clear H
 obtain ⟨Ug,Yj,Za⟩:=Kd.fh ES.out
 subst Za
 go_enter Try.func250,Try.ntmps250
 go_wp2
 go_loopg [2,3] k (fun kq v2 v3 w'=>∃ (alV:List Int) (lU:Int) (bE:Int),v2=.int .i64 lU∧v3=.int .i64 bE∧ak (iW.l0 kq alV lU bE=some r)∧ak (kq≤k)∧ak (Kd.R (Kd.int .i64) 2 w' w0.heap.size (fun k_=>(iY k_∨w.heap.size≤k_)) (.slice Ug l0.length Yj) alV)∧ak (Kept w w' (fun k_=>iY k_))∧ak (Below w0.heap.size w0 w'))
 case atStart=>exact ⟨(l0),(0),(wrap64 ((l0.length:Int) - 1)),rs,rs,H',⟨Nat.le_refl _⟩,⟨aR (ES.out)⟩,⟨by repeat (first|(with_reducible first|exact HK.out|apply Kept.alloc|apply Kept.drewN|apply Kept.drew)|exact HK.out)⟩,⟨bl⟩⟩
 case round =>
  clear H'
  obtain ⟨alV,lU,bE,rfl,rfl,HA,aM,kR,HK,HB⟩:=hrel
  have zz:=(Kd.bn kR.out).1
  rw [zz] at kR
  (try simp only [zz])
  cases gk with
  | zero=>exact absurd HA.out (by simp [iW.l0])
  | succ k1 =>
   have H:=HA.out
   clear HA
   simp only [iW.l0] at H
   by_cases c3:lU < bE
   case neg =>
    rw [if_neg c3] at H
    have ja:decide (lU < bE)=false:=decide_eq_false c3
    clear c3
    obtain rfl:=Option.some.inj H
    go_wp2
    first|go_end0|((try simp only [Exit.inBlock,Exit.then]);refine bodyPost_ret (results_none rfl _ _ _) rfl ?_)
    exact ⟨by first|rfl|(simp [bA,bB]<;>rfl)|(simp [*,bA,bB]<;>rfl),(by first|exact (aR kR.out)|(simp only [zz];exact (aR kR.out))),bl,by repeat (first|(with_reducible first|exact HK.out|apply Kept.alloc|apply Kept.drewN|apply Kept.drew)|exact HK.out)⟩
   rw [if_pos c3] at H
   have ja:=decide_eq_true c3
   clear c3
   replace H:=iS H;obtain ⟨c4,H⟩:=H
   have eV:=decide_eq_true c4
   clear c4
   replace H:=iS H;obtain ⟨c5,H⟩:=H
   have jb:=decide_eq_true c5
   (try simp only [zz] at jb)
   clear c5
   replace H:=iS H;obtain ⟨c6,H⟩:=H
   have jk:=decide_eq_true c6
   clear c6
   replace H:=iS H;obtain ⟨c7,H⟩:=H
   have iz:=decide_eq_true c7
   (try simp only [zz] at iz)
   clear c7
   obtain ⟨TV,DC⟩:∃ y_:List Int,y_=(alV.set (lU:Int).toNat (rd alV bE)):=⟨_,rfl⟩
   replace H:(iW.l0 k1 (TV.set (bE:Int).toNat (rd alV lU)) (wrap64 (lU+1)) (wrap64 (bE - 1)))=some r:=by first|(rw [DC];with_reducible exact H)|(have ax:=(Option.bind_some _ _).symm.trans H;rw [DC];with_reducible exact ax)|(have ax:=(Option.bind_some _ _).symm.trans H;with_reducible exact ax)|with_reducible exact H|(rw [DC];exact H)|exact H
   have V0:=k0 DC
   clear DC
   obtain ⟨al4,jB⟩:∃ y_:List Int,y_=(TV.set (bE:Int).toNat (rd alV lU)):=⟨_,rfl⟩
   replace H:(iW.l0 k1 al4 (wrap64 (lU+1)) (wrap64 (bE - 1)))=some r:=by first|(rw [jB];with_reducible exact H)|(have ax:=(Option.bind_some _ _).symm.trans H;rw [jB];with_reducible exact ax)|(have ax:=(Option.bind_some _ _).symm.trans H;with_reducible exact ax)|with_reducible exact H|(rw [jB];exact H)|exact H
   have uK:=k0 jB
   clear jB
   have H':=k0 H
   clear H
   try go_wp2
   replace kR:=k0 (Kd.alp kR.out);replace HK:=k0 (Kept.drew HK.out);replace HB:=k0 (bH HB.out)
   have fY:0≤(bE:Int):=oD
   have fZ:bE < (alV.length:Int):=oD
   obtain ⟨sY,e101,rK⟩:=Kd.bS (Kd.bn kR.out).2.2 bE fY fZ
   cases e101
   replace fY:=eq_true fY
   replace fZ:=eq_true fZ
   have eR:0≤(lU:Int):=oD
   have eS:lU < (alV.length:Int):=oD
   obtain ⟨rj,e102,jd⟩:=Kd.bS (Kd.bn kR.out).2.2 lU eR eS
   obtain rfl:sY=rj:=(by injection e102)
   replace eR:=eq_true eR
   replace eS:=eq_true eS
   have p8:0≤(lU:Int):=oD
   have q8:(lU:Int) < ((alV.length:Int):Int):=oD
   obtain ⟨FF,co8,Pd,PI,Z5,cl8,Nv⟩:=Kd.kT kR.out (by omega)
   (first|cases Pd|(injection Pd with aW aly c_;(first|subst aW|(injection aW with aW;subst aW));subst c_;clear aly))
   have anZ:=k0 PI
   have U2:=k0 Nv
   clear PI Z5 Nv
   have Nx:=k0 (show (iY FF∨w.heap.size≤FF) from (kR.out.1 _ rfl))
   (first|simp only [add_plain] at rK|skip)
   (first|simp only [add_plain] at jd|skip)
   obtain ⟨ace,abi⟩:=Kd.js 0 kR.out (lU:Int) p8 q8
   replace p8:=eq_true p8
   replace q8:=eq_true q8
   have sU:=Kd.Az kR.out (lU:Int) (rd alV bE)
   rw [← V0.out] at sU
   have Ic:=k0 sU
   clear sU
   have p9:0≤(bE:Int):=oD
   have q9:(bE:Int) < ((alV.length:Int):Int):=oD
   obtain ⟨zJ,Kv⟩:=Kd.js 0 Ic.out (bE:Int) p9 q9
   replace p9:=eq_true p9
   replace q9:=eq_true q9
   have xh:=Kd.Az Ic.out (bE:Int) (rd alV lU)
   rw [← uK.out] at xh
   have ND:=k0 xh
   clear xh
   refine nT (n:=16) (S:=fun w'=>w'.cell? ⟨FF,(bE).toNat,none⟩=some (.int .i64 (rd alV bE))∧w'.cell? ⟨FF,(lU).toNat,none⟩=some (.int .i64 (rd alV lU))) (ds:=[13,15]) (ba 16 0) (by kernel_rfl) rfl rfl ⟨rK,jd⟩ (fun hHeld=>?_);refine rQ iW.aeX iW.W5 (fun alc dG=>?_)
   generalize wr.drew=fJ at kR HK HB U2 Ic ND abi Kv rK jd ace zJ hHeld ⊢
   refine pu 0 (some 14) (ba 16 1) alc (h:=?_)
   refine pu 1 (some 15) (ba 16 3) alc (h:=?_)
   refine pu 2 (some 16) (ba 16 7) alc (h:=?_)
   refine pu 3 (some 17) (ba 16 15) alc (h:=?_)
   refine pu 4 (some 18) (ba 16 31) alc (h:=?_)
   refine pu 5 (some 19) (ba 16 63) alc (h:=?_)
   refine pu 6 (some 20) (ba 16 127) alc (h:=?_)
   refine pu 8 (some 22) (ba 16 383) alc (h:=?_)
   refine pu 9 (some 23) (ba 16 895) alc (h:=?_)
   refine pu 10 (some 24) (ba 16 1919) alc (h:=?_)
   refine ta 7 (some 21) (ba 16 2047) alc dG hHeld (hy:=Or.inl ⟨by rfl,by rintro w' ⟨s0,s1⟩;go_simp;with_reducible rfl⟩) (h:=?_)
   refine ta 11 (some 25) (ba 16 4095) alc dG hHeld (hy:=Or.inl ⟨by rfl,by rintro w' ⟨s0,s1⟩;go_simp;with_reducible rfl⟩) (h:=?_)
   refine pu 12 (some 26) (ba 16 8191) alc (h:=?_)
   refine sF (i:=13) (N:=none) (ba 16 16383) rfl rfl (lG alc.out (by kernel_rfl)) (by decide) (fun K hK=>?_)
   refine qa (w1:=?_) (by rfl) rfl ?_ ?_
   rotate_left;· go_simp;rfl
   refine hK.out _ _ ?_
   clear hK K
   refine pu 14 (some 27) (ba 16 32767) alc (h:=?_)
   refine sF (i:=15) (N:=none) (ba 16 65535) rfl rfl (lG alc.out (by kernel_rfl)) (by decide) (fun K hK=>?_)
   refine qa (w1:=?_) (by rfl) rfl ?_ ?_
   rotate_left;· go_simp;rfl
   refine hK.out _ _ ?_
   clear hK K
   refine nH (rz alc.out (by kernel_rfl)) ?_
   try go_wp2
   (try simp only [← zz])
   go_roundg k1
   case measure=>have:=aM.out;omega
   case rel=>exact ⟨(al4),(wrap64 (lU+1)),(wrap64 (bE - 1)),rs,rs,H',⟨by have:=aM.out;omega⟩,⟨by (try simp only [zz]);(with_reducible repeat (first|apply Kd.bO|apply Kd.bR|apply Kd.alp));exact ND.out⟩,⟨by repeat (first|(with_reducible first|exact HK.out|apply Kept.alloc|apply Kept.drewN|apply Kept.drew|refine Kept.setCell ?_ Nx.out _|refine Kept.setCell ?_ Nx.out _)|exact HK.out)⟩,⟨by repeat (first|(with_reducible first|exact HB.out|apply bL|apply bX|apply bH|refine dI ?_ anZ.out|refine dI ?_ anZ.out)|exact HB.out)⟩⟩
-- NOT PRINTED: function 245 (slices_rotateLeft_int64)
-- NOT PRINTED: function 240 (slices_rotateRight_int64)
-- NOT PRINTED: function 225 (slices_Insert_int64_int64)
/-! ### F183: function 183 -/
/- of F222.f -/
def qP (l:List Int) (i y:Int):List Int:=l.take i.toNat ++ y :: l.drop i.toNat
set_option maxHeartbeats 8000000 in
set_option maxRecDepth 100000 in
theorem acA (b n c i vb : Nat) (cs : List Value) (y : Value) (w : World) (hi : i < n) (hroom : n + 1 ≤ c) (hc63 : c ≤ 9223372036854775807) (hvb : vb ≠ b)
  (hcl:cs.length=n)
  (hcs:∀ j v,cs[j]?=some v→w.cell? ⟨b,j,none⟩=some v) (hsp:∀ j,j < n+1→(w.cell? ⟨b,j,none⟩).isSome=true) (hfz:∀ j,j < n+1→w.frozen? ⟨b,j,none⟩=false)
  (hvs:w.cell? ⟨vb,0,none⟩=some y) (h1c:∀ v ∈ cs,v.oneCell'=true) (h1v:y.oneCell'=true)
  (tA tB:TypeId) (kA kB:Nat) (hsa:w.shape? vb=some (tA,kA)) (hsb:w.shape? b=some (tB,kB)) (hkB:kB ≠ 0) (hfa:w.frozen? ⟨vb,0,none⟩=false) (hfe:w.frozen? ⟨vb,kA,none⟩=false) :
  Calls Try.prog 225 #[.slice (some ⟨b,0,none⟩) n c,.int .i64 i,.slice (some ⟨vb,0,none⟩) 1 1] w fun e w' =>
   e=.returned (.slice (some ⟨b,0,none⟩) (n+1) c)∧w'=(w.drew.setCells b (i+1) (cs.drop i)).setCells b i [y]:=by
 have zK:¬ ((i:Int)=(n:Int)):=by omega
 have hsz:(Try.prog.info? 2).map (·.size)=some 1:=by
  obtain ⟨i0,sA,_,hs,_⟩:=info_parts lF
  rw [sA];simp [hs]
 have aeA:∀ w,(Go.sizeOf 2).run Try.prog w=.ok 1 w:=fun w=>by first|rfl|(go_simp;done)
 have hov:∀ lb cb,(callFunc 239 #[.slice (some ⟨vb,0,none⟩) 1 1,.slice (some ⟨b,i+1,none⟩) lb cb]).run Try.prog w=.ok (.value (.bool false)) w:=fun lb cb=>by
  rw [run_callFunc_extern Try.func239 (by kernel_rfl) (by kernel_rfl) (by kernel_rfl) (e := Extern.SlicesOverlaps.overlaps #[28, 28] #[4]) (by kernel_rfl),
   Lib.run_overlaps_apart w 28 4 2 Try.underlying28 1 aeA ⟨vb,0,none⟩ ⟨b,i+1,none⟩ 1 1 lb cb hvb tA tB kA kB hsa hsb hkB hfa hfe]
  rfl
 have hdl:(cs.drop i).length=n - i:=by rw [List.length_drop,hcl]
 have mixed:Try.prog.follows Departure.mixedOrders=true:=by kernel_rfl
 have hw1:IntKind.i64.wrap ((i:Int)+1)=(i:Int)+1:=by rw [IntKind.wrap_i64];omega
 have hw2:IntKind.i64.wrap ((n:Int)+1)=(n:Int)+1:=by rw [IntKind.wrap_i64];omega
 have hgt:decide ((c:Int) < (n:Int)+1)=false:=decide_eq_false (by omega)
 have hb1:(0:Int)≤(i:Int)+1:=by omega
 have hin:i≤n:=by omega
 have htn:((i:Int)+1).toNat=i+1:=by omega
 have htm:((n:Int)+1).toNat=n+1:=by omega
 have hb2:¬ (c=i+1):=by omega
 have hb3:(i:Int)≤(n:Int)+1:=by omega
 have hb4:¬ (c=i):=by omega
 have hb5:(i:Int)+1≤(n:Int)+1:=by omega
 have hb6:(n:Int)+1≤(c:Int):=by omega
 have hb7:(0:Int)≤(n:Int)+1:=by omega
 have hb8:i+1≤n+1:=by omega
 have Qz:∀ ty dc sc,(Builtin.copy_ #[28,28] ty #[.slice (some ⟨b,i+1,none⟩) (n - i) dc,.slice (some ⟨b,i,none⟩) (n+1 - i) sc]).run Try.prog w.drew=.ok (goInt (cs.drop i).length) (w.drew.setCells b (i+1) (cs.drop i)):=fun ty dc sc =>
  run_copy_cells w.drew _ _ ty 2 b (i + 1) (n - i) dc ⟨b, i, none⟩ (n + 1 - i) sc (cs.drop i) Try.underlying28 hsz (by rw [hdl]; simp only [Nat.min_def]; split <;> omega)
   (fun j v hj=>by rw [Addr.add_lit];exact hcs (i+j) v (by rwa [List.getElem?_drop] at hj))
   (fun j hj=>hsp _ (by rw [hdl] at hj;omega)) (fun j hj=>hfz _ (by rw [hdl] at hj;omega)) (fun v hv=>h1c v (List.mem_of_mem_drop hv))
 obtain ⟨W1,oA⟩:∃ W1,W1=w.drew.setCells b (i+1) (cs.drop i):=⟨_,rfl⟩
 have abX:∀ k,k < n+1→(W1.cell? ⟨b,k,none⟩).isSome=true:=fun k hk=>by
  rw [oA]
  exact isSome_setCells b (cs.drop i) (i+1) w.drew (fun j hj=>hsp _ (by rw [hdl] at hj;omega)) k (hsp k hk)
 have Ki:∀ (W:World),(∀ x,W.cell? x=W1.cell? x)→(∀ x,W.frozen? x=W1.frozen? x)→∀ ty dc,(Builtin.copy_ #[28,28] ty #[.slice (some ⟨b,i,none⟩) (n+1 - i) dc,.slice (some ⟨vb,0,none⟩) 1 1]).run Try.prog W=.ok (goInt 1) (W.setCells b i [y]):=fun W xM CO ty dc =>
  run_copy_cells W _ _ ty 2 b i (n + 1 - i) dc ⟨vb, 0, none⟩ 1 1 [y] Try.underlying28 hsz (by show 1 = _; simp only [Nat.min_def]; split <;> omega)
   (fun j v hj=>by
    obtain rfl:j=0:=by have:=(List.getElem?_eq_some_iff.1 hj).1;simpa using this
    simp at hj
    rw [Addr.add_lit,xM,oA,World.cell?_setCells_out b _ _ _ _ (fun h _=>absurd h hvb),← hj]
    exact hvs)
   (fun j hj=>by rw [xM];exact abX _ (by simp at hj;omega)) (fun j hj=>by rw [CO,oA,World.frozen?_setCells];exact hfz _ (by simp at hj;omega)) (fun v hv=>by simp at hv;rw [hv];exact h1v)
 rw [← oA] at Qz
 go_enter Try.func225,Try.ntmps225
 go_wp2_with (simp only [hov])
 go_region_law_o (refine step_copy_runI rfl _ _ 28 28 rfl _ _ (by simp [Act.eval,Act.put]) (by simp [Act.eval,Act.put]) (Qz _ _ _) ?_)
 go_wp2_with (first|(simp only [Ki _ (fun _=>rfl) (fun _=>rfl)];done)|(rw [Ki _ (fun _=>rfl) (fun _=>rfl)])|(at_builtin;refine wpList_copy_runI _ rfl _ _ 28 28 rfl _ _ rfl rfl (Ki _ (fun _=>rfl) (fun _=>rfl) _ _) ?_))
 go_ret
 first|exact ⟨rfl,rfl⟩|exact ⟨rfl,by rw [oA]⟩
set_option maxHeartbeats 8000000 in
set_option maxRecDepth 100000 in
theorem acz (b n c i vb : Nat) (cs : List Value) (y : Value) (w : World) (hi : i < n) (hnc : n ≤ c) (hroom : c < n + 1) (hbig : (n + 1) * 8 ≤ 140737488355328)
  (hcl:cs.length=n) (hcs:∀ j v,cs[j]?=some v→w.cell? ⟨b,j,none⟩=some v) (hvs:w.cell? ⟨vb,0,none⟩=some y) (h1c:∀ v ∈ cs,v.oneCell'=true) (h1v:y.oneCell'=true) :
  Calls Try.prog 225 #[.slice (some ⟨b,0,none⟩) n c,.int .i64 i,.slice (some ⟨vb,0,none⟩) 1 1] w fun e w' =>
   e=.returned (.slice (some ⟨w.heap.size,0,none⟩) (n+1) (grownCap w (n+1) c 2)) ∧
   w'=(((w.alloc (.cells ((cs.take i).toArray ++ Builtin.zeroCells (Value.int .i64 0).cells (n+1 - i) ++ Builtin.zeroCells (Value.int .i64 0).cells (grownCap w (n+1) c 2 - (n+1))) 2)).drew.setCells w.heap.size i [y]).drew).setCells w.heap.size (i+1) (cs.drop i):=by
 obtain ⟨i0,sA,uh,hzs,Sf⟩:=info_parts lF
 have mixed:Try.prog.follows Departure.mixedOrders=true:=by kernel_rfl
 have zK:¬ ((i:Int)=(n:Int)):=by omega
 have hgt:decide ((c:Int) < (n:Int)+1)=true:=decide_eq_true (by omega)
 have hsz:(Try.prog.info? 2).map (·.size)=some 1:=by rw [sA];simp [hzs]
 have hbw:b < w.heap.size:=block_lt_of_cell (hcs 0 _ (List.getElem?_eq_getElem (by omega)))
 have KW:vb < w.heap.size:=block_lt_of_cell hvs
 have hkk:(n:Int)+1 - (i:Int)=((n+1 - i:Nat):Int):=by omega
 have hik:i+(n+1 - i)=n+1:=by omega
 have hold:(Builtin.firstCells i0.size i (.slice (some ⟨b,0,none⟩) i c)).run Try.prog w.drew=.ok (cs.take i).toArray w.drew:=by
  rw [hzs]
  exact run_firstCells_some w.drew 1 i ⟨b,0,none⟩ i c (cs.take i) (by rw [List.length_take];omega) (fun j v hj=>by
   rw [Addr.add_lit,Nat.zero_add]
   rw [List.getElem?_take] at hj
   split at hj
   ·exact hcs j v hj
   ·cases hj)
 have Df : ∀ ty, (Builtin.append_ #[28, 3] ty #[.slice (some ⟨b, 0, none⟩) i c, .int .i64 ((n : Int) + 1 - (i : Int))]).run Try.prog w =
   .ok (.slice (some ⟨w.heap.size,0,none⟩) (n+1) (grownCap w (n+1) c 2)) (w.drew.alloc (.cells ((cs.take i).toArray ++ Builtin.zeroCells (Value.int .i64 0).cells (n+1 - i) ++ Builtin.zeroCells (Value.int .i64 0).cells (grownCap w (n+1) c 2 - (n+1))) 2)):=fun ty=>by
  have h:=Lib.run_append_grow_zeros w 28 3 ty 2 i0 _ .i64 .i64 Try.underlying28 Try.underlying3 sA uh (some ⟨b,0,none⟩) i c (cs.take i) hold (n+1 - i) (by omega) (by omega) (by omega) (by omega) (by rw [Sf];omega) (by rw [Sf,hik];exact growslice_fits hroom hbig)
  rw [hik] at h
  rw [hkk]
  exact h
 obtain ⟨G,hG⟩:∃ G,G=grownCap w (n+1) c 2:=⟨_,rfl⟩
 obtain ⟨ROW,zf⟩:∃ ROW:Array Value,ROW=(cs.take i).toArray ++ Builtin.zeroCells (Value.int .i64 0).cells (n+1 - i) ++ Builtin.zeroCells (Value.int .i64 0).cells (G - (n+1)):=⟨_,rfl⟩
 rw [← hG] at Df ⊢
 rw [← zf] at Df ⊢
 have hRl:n+1≤ROW.size:=by
  rw [zf]
  simp [Builtin.zeroCells,Value.cells]
  omega
 obtain ⟨W1,oA⟩:∃ W1,W1=w.drew.alloc (.cells ROW 2):=⟨_,rfl⟩
 rw [← oA] at Df
 have hN:∀ j,j < n+1→(W1.cell? ⟨w.heap.size,j,none⟩).isSome=true:=fun j hj=>by
  rw [oA,World.cell?_alloc_at (w:=w.drew) ROW _ w.heap.size j rfl,Array.getElem?_eq_getElem (by omega)];rfl
 have P4:∀ j,W1.frozen? ⟨w.heap.size,j,none⟩=false:=fun j=>by rw [oA];exact World.frozen?_alloc_at (w:=w.drew) ROW _ w.heap.size j rfl
 have hOb:∀ j v,w.cell? ⟨b,j,none⟩=some v→W1.cell? ⟨b,j,none⟩=some v:=fun j v h=>by rw [oA,World.cell?_alloc_past (w:=w.drew) _ b j hbw];exact h
 have hOv:∀ j v,w.cell? ⟨vb,j,none⟩=some v→W1.cell? ⟨vb,j,none⟩=some v:=fun j v h=>by rw [oA,World.cell?_alloc_past (w:=w.drew) _ vb j KW];exact h
 have hdl:(cs.drop i).length=n - i:=by rw [List.length_drop,hcl]
 have QA:∀ (W:World),(∀ x,W.cell? x=W1.cell? x)→(∀ x,W.frozen? x=W1.frozen? x)→∀ ty dc,(Builtin.copy_ #[28,28] ty #[.slice (some ⟨w.heap.size,i,none⟩) (n+1 - i) dc,.slice (some ⟨vb,0,none⟩) 1 1]).run Try.prog W=.ok (goInt 1) (W.setCells w.heap.size i [y]):=fun W xM CO ty dc =>
  run_copy_cells W _ _ ty 2 w.heap.size i (n + 1 - i) dc ⟨vb, 0, none⟩ 1 1 [y] Try.underlying28 hsz (by show 1 = _; simp only [Nat.min_def]; split <;> omega)
   (fun j v hj=>by
    obtain rfl:j=0:=by have:=(List.getElem?_eq_some_iff.1 hj).1;simpa using this
    simp at hj
    rw [Addr.add_lit,xM,← hj];exact hOv _ _ hvs)
   (fun j hj=>by rw [xM];exact hN _ (by simp at hj;omega)) (fun j hj=>by rw [CO];exact P4 _) (fun v hv=>by simp at hv;rw [hv];exact h1v)
 have hGn:n+1≤G:=by rw [hG];exact grownCap_ge w _ _ _
 have hG63:G≤9223372036854775807:=by
  have:=grownCap_le_maxLen w (n+1) c 2 (by unfold maxLen;omega)
  rw [← hG] at this
  unfold maxLen at this
  omega
 have hGi:¬ (G=i):=by omega
 have aht:¬ (G=i+1):=by omega
 have hci:¬ (c=i):=by omega
 have hbN:b ≠ w.heap.size:=by omega
 have aaQ:∀ (W:World),(∀ x,W.cell? x=(W1.setCells w.heap.size i [y]).cell? x)→(∀ x,W.frozen? x=(W1.setCells w.heap.size i [y]).frozen? x)→∀ ty dc sc,(Builtin.copy_ #[28,28] ty #[.slice (some ⟨w.heap.size,i+1,none⟩) (n - i) dc,.slice (some ⟨b,i,none⟩) (n - i) sc]).run Try.prog W=.ok (goInt (cs.drop i).length) (W.setCells w.heap.size (i+1) (cs.drop i)):=fun W xM CO ty dc sc =>
  run_copy_cells W _ _ ty 2 w.heap.size (i + 1) (n - i) dc ⟨b, i, none⟩ (n - i) sc (cs.drop i) Try.underlying28 hsz (by rw [hdl]; simp only [Nat.min_def]; split <;> omega)
   (fun j v hj=>by
    rw [Addr.add_lit,xM,World.cell?_setCells_out _ _ _ _ _ (fun h _=>absurd h hbN)]
    exact hOb _ v (hcs (i+j) v (by rwa [List.getElem?_drop] at hj)))
   (fun j hj=>by rw [xM];exact isSome_setCells _ [y] i W1 (fun t ht=>hN _ (by simp at ht;omega)) _ (hN _ (by rw [hdl] at hj;omega)))
   (fun j hj=>by rw [CO,World.frozen?_setCells];exact P4 _) (fun v hv=>h1c v (List.mem_of_mem_drop hv))
 subst oA
 have we:∀ x,((w.alloc (.cells ROW 2)).drew).cell? x=(w.drew.alloc (.cells ROW 2)).cell? x:=fun x=>rfl
 have zc:∀ x,((w.alloc (.cells ROW 2)).drew).frozen? x=(w.drew.alloc (.cells ROW 2)).frozen? x:=fun x=>rfl
 have hF1:∀ x,(((w.alloc (.cells ROW 2)).drew.setCells w.heap.size i [y]).drew).cell? x=((w.drew.alloc (.cells ROW 2)).setCells w.heap.size i [y]).cell? x:=fun x=>rfl
 have hF2:∀ x,(((w.alloc (.cells ROW 2)).drew.setCells w.heap.size i [y]).drew).frozen? x=((w.drew.alloc (.cells ROW 2)).setCells w.heap.size i [y]).frozen? x:=fun x=>rfl
 have hw1:IntKind.i64.wrap ((i:Int)+1)=(i:Int)+1:=by rw [IntKind.wrap_i64];omega
 have hw2:IntKind.i64.wrap ((n:Int)+1)=(n:Int)+1:=by rw [IntKind.wrap_i64];omega
 have hw3:IntKind.i64.wrap ((n:Int)+1 - (i:Int))=(n:Int)+1 - (i:Int):=by rw [IntKind.wrap_i64];omega
 have hb1:(0:Int)≤(i:Int)+1:=by omega
 have hin:i≤n:=by omega
 have hic:i≤c:=by omega
 have htn:((i:Int)+1).toNat=i+1:=by omega
 have hb3:(i:Int)≤(n:Int):=by omega
 have hb4:(i:Int)≤(n:Int)+1:=by omega
 have hb5:(i:Int)+1≤(n:Int)+1:=by omega
 clear hkk hik hold zf hG hRl
 go_enter Try.func225,Try.ntmps225
 go_wp2_with (first
  | (at_builtin;refine Lib.wpList_append_run _ rfl _ _ _ _ rfl _ _ rfl rfl _ _ (Df _) ?_)
  | (rw [Df])
  | (rw [QA _ we zc])
  | (at_builtin;refine wpList_copy_runI _ rfl _ _ 28 28 rfl _ _ rfl rfl (QA _ we zc _ _) ?_))
 go_region_law_o (refine step_copy_runI rfl _ _ 28 28 rfl (.slice (some ⟨w.heap.size,i+1,none⟩) (n - i) (G - (i+1))) (.slice (some ⟨b,i,none⟩) (n - i) (c - i)) (by simp [Act.eval,Act.put]) (by simp [Act.eval,Act.put]) (aaQ _ hF1 hF2 3 (G - (i+1)) (c - i)) ?_)
 go_wp2
 go_ret
 exact ⟨rfl,rfl⟩
theorem CJ (g : Nat) : ∀ (vs : List Value) (o : Nat) (w : World), w.grownBy (w.setCells g o vs) (some g)
 | [],_,w=>⟨rfl,rfl,rfl,Nat.le_refl _,fun _ _ _=>rfl⟩
 | v :: r,o,w=>World.grownBy.trans (b:=w.setCell ⟨g,o,none⟩ v) ⟨rfl,rfl,rfl,by simp [World.setCell],fun k _ hk=>Below.heap_setCell w ⟨g,o,none⟩ v k (fun he=>hk (by rw [he]))⟩ (CJ g r (o+1) _)
theorem JV (w:World) (r:Option Nat):w.grownBy w.drew r:=⟨rfl,rfl,rfl,Nat.le_refl _,fun _ _ _=>rfl⟩
theorem FG (w:World) (o:Obj) (r:Option Nat):w.grownBy (w.alloc o) r:=⟨rfl,rfl,rfl,by unfold World.alloc;simp,fun k hk _=>by unfold World.alloc;simp [Array.getElem?_push,Nat.ne_of_lt hk]⟩
theorem Sh {W : World} {g k n : Nat} {cur : Array Value} {cs : List Value} {y : Value} (h : W.heap[g]? = some (.cells cur 2 (0, 0))) (hk : k ≤ n) (hcl : cs.length = n) (hs : n + 1 ≤ cur.size) (ht : cur.toList.take k = cs.take k) :
  (∃ c2,((W.setCells g (k+1) (cs.drop k)).setCells g k [y]).heap[g]?=some (.cells c2 2 (0,0))∧c2.size=cur.size∧c2.toList.take (n+1)=cs.take k ++ y :: cs.drop k) ∧
  (∃ c2,((W.setCells g k [y]).drew.setCells g (k+1) (cs.drop k)).heap[g]?=some (.cells c2 2 (0,0))∧c2.size=cur.size∧c2.toList.take (n+1)=cs.take k ++ y :: cs.drop k):=by
 have hd:(cs.drop k).length=n - k:=by rw [List.length_drop,hcl]
 have hlt:(cs.take k).length=k:=by rw [List.length_take];omega
 have hct:(cur.toList.take k).length=k:=by rw [ht];exact hlt
 constructor
 ·obtain ⟨c1, e1, e2, e3⟩ := vk (cs.drop k) (k + 1) W cur h (by rw [hd]; omega)
  obtain ⟨c2,f1,f2,f3⟩:=vk [y] k _ c1 e1 (by simp;omega)
  refine ⟨c2,f1,by omega,?_⟩
  have g1:c1.toList.take k=cs.take k:=by
   rw [e3,List.append_assoc,List.take_append,List.take_take,Nat.min_eq_left (by omega),ht]
   have:(cur.toList.take (k+1)).length=k+1:=by rw [List.length_take,Array.length_toList];omega
   rw [this,show k - (k+1)=0 by omega,List.take_zero,List.append_nil]
  have g2:c1.toList.drop (k+1)=cs.drop k ++ cur.toList.drop (k+1+(n - k)):=by
   have:(cur.toList.take (k+1)).length=k+1:=by rw [List.length_take,Array.length_toList];omega
   rw [e3,List.append_assoc,List.drop_append,List.drop_of_length_le (by omega),this,Nat.sub_self,List.drop_zero,List.nil_append,hd]
  have g3:cs.take k ++ [y] ++ (cs.drop k ++ cur.toList.drop (k+1+(n - k)))=(cs.take k ++ y :: cs.drop k) ++ cur.toList.drop (k+1+(n - k)):=by simp
  rw [f3,g1,List.length_singleton,g2,g3]
  exact List.take_left' (by rw [List.length_append,List.length_cons,hlt,hd];omega)
 ·obtain ⟨c1, e1, e2, e3⟩ := vk [y] k W cur h (by simp; omega)
  have YK:(W.setCells g k [y]).drew.heap[g]?=some (.cells c1 2 (0,0)):=e1
  obtain ⟨c2,f1,f2,f3⟩:=vk (cs.drop k) (k+1) _ c1 YK (by rw [hd];omega)
  refine ⟨c2,f1,by omega,?_⟩
  have g1:c1.toList.take (k+1)=cs.take k ++ [y]:=by
   rw [e3,ht,List.length_singleton,List.take_append,List.take_of_length_le (by simp;omega)]
   rw [List.length_append,hlt,List.length_singleton,Nat.sub_self,List.take_zero,List.append_nil]
  have g3:∀ Z,cs.take k ++ [y] ++ cs.drop k ++ Z=(cs.take k ++ y :: cs.drop k) ++ Z:=fun Z=>by simp
  rw [f3,g1,g3]
  exact List.take_left' (by rw [List.length_append,List.length_cons,hlt,hd];omega)
set_option maxHeartbeats 8000000 in
set_option maxRecDepth 100000 in
theorem acy (y : Int) (l0 : List Int) (i : Int) (W w0 : World) (b : Nat) (ok : Nat → Prop) (V : Value) (hR : Kd.R (Kd.int .i64) 2 W b ok V l0) (hok : ∀ k, W.heap.size ≤ k → ok k) (sA : 0 ≤ i) (hi : i ≤ (l0.length : Int)) (hB : Below b w0 W) (hb : b ≤ W.heap.size) (hL : l0.length < 17592186044416) :
  Calls Try.prog 225 #[V,.int .i64 i,.slice (some ⟨W.heap.size,0,none⟩) 1 1] (W.alloc (.cells #[.int .i64 y] 2)) fun e w'=>∃ v,e=.returned v∧Kd.R (Kd.int .i64) 2 w' b ok v (qP l0 i y)∧Below b w0 w'∧W.grownBy w' V.ownBlock∧(v.ownBlock=V.ownBlock∨∃ k,v.ownBlock=some k∧W.heap.size≤k):=by
 obtain ⟨k,rfl⟩:∃ k:Nat,i=k:=⟨i.toNat,by omega⟩
 have hk:k≤l0.length:=by omega
 have amD:Below b w0 (W.alloc (.cells #[.int .i64 y] 2)):=hB.alloc hb _
 have CL:=FG W (.cells #[.int .i64 y] 2) V.ownBlock
 have hsize:(W.alloc (.cells #[.int .i64 y] 2)).heap.size=W.heap.size+1:=by unfold World.alloc;exact Array.size_push _
 have hnew:(W.alloc (.cells #[.int .i64 y] 2)).heap[W.heap.size]?=some (.cells #[.int .i64 y] 2 (0,0)):=heap_alloc_new W _
 by_cases hend:k=l0.length
 case neg =>
  have hlt:k < l0.length:=by omega
  obtain ⟨_,⟨_,h0⟩|⟨g,c,cur,rfl,J8,KG,hnc,sj,hcs,hct⟩⟩:=Kd.Lp hR
  ·omega
  have hgW:g < W.heap.size:=by
   rcases Nat.lt_or_ge g W.heap.size with h|h
   ·exact h
   ·rw [Array.getElem?_eq_none h] at KG;exact absurd KG (by simp)
  have C4:(W.alloc (.cells #[.int .i64 y] 2)).heap[g]?=some (.cells cur 2 (0,0)):=by
   rw [← KG];exact (FG W (.cells #[.int .i64 y] 2) none).block g hgW (by simp)
  have hcl:(fj (Value.int .i64) l0).length=l0.length:=by simp [fj]
  rw [Nat.mul_one] at hcs hct
  have hcell:∀ j v,(fj (Value.int .i64) l0)[j]?=some v→(W.alloc (.cells #[.int .i64 y] 2)).cell? ⟨g,j,none⟩=some v:=fun j v hj=>by
   have hj2:j < l0.length:=by have:=(List.getElem?_eq_some_iff.1 hj).1;omega
   rw [av C4 j,← hj,← hct,List.getElem?_take,if_pos hj2,Array.getElem?_toList]
  have hfz:=fun j=>ale C4 j
  have R7:(W.alloc (.cells #[.int .i64 y] 2)).cell? ⟨W.heap.size,0,none⟩=some (.int .i64 y):=by rw [av hnew 0];rfl
  have h1c:∀ v ∈ fj (Value.int .i64) l0,v.oneCell'=true:=fun v hv=>by
   obtain ⟨x,_,rfl⟩:=List.mem_map.1 hv
   rfl
  have R5:∀ c2:Array Value,c2.toList.take (l0.length+1)=(fj (Value.int .i64) l0).take k ++ .int .i64 y :: (fj (Value.int .i64) l0).drop k→c2.toList.take ((qP l0 (k:Int) y).length * 1)=fj (Value.int .i64) (qP l0 (k:Int) y):=fun c2 h=>by
   have e1:(qP l0 (k:Int) y).length=l0.length+1:=by
    unfold qP
    rw [Int.toNat_natCast,List.length_append,List.length_cons,List.length_take,List.length_drop];omega
   rw [e1,Nat.mul_one,h]
   unfold qP fj
   rw [Int.toNat_natCast,List.map_append,List.map_cons,List.map_take,List.map_drop]
  have hil:(qP l0 (k:Int) y).length=l0.length+1:=by
   unfold qP
   rw [Int.toNat_natCast,List.length_append,List.length_cons,List.length_take,List.length_drop];omega
  have hkc:(fj (Value.int .i64) l0).take k=cur.toList.take k:=by rw [← hct,List.take_take,Nat.min_eq_left (by omega)]
  by_cases hroom:l0.length+1≤c
  case neg =>
   have wh:c=l0.length:=by omega
   refine (acz g l0.length c k W.heap.size (fj (Value.int .i64) l0) (.int .i64 y) _ hlt hnc (by omega) (by omega) hcl hcell R7 h1c rfl).mono ?_
   rintro e w' ⟨rfl,rfl⟩
   generalize oA:W.alloc (.cells #[.int .i64 y] 2)=W1 at *
   obtain ⟨G,hG⟩:∃ G,G=grownCap W1 (l0.length+1) c 2:=⟨_,rfl⟩
   rw [← hG]
   have hGn:l0.length+1≤G:=by rw [hG];exact grownCap_ge W1 _ _ _
   have hGm:G≤maxLen:=by
    have:=grownCap_le_maxLen W1 (l0.length+1) c 2 (by unfold maxLen;omega)
    rw [← hG] at this
    exact this
   obtain ⟨ROW,zf⟩:∃ ROW:Array Value,ROW=((fj (Value.int .i64) l0).take k).toArray ++ Builtin.zeroCells (Value.int .i64 0).cells (l0.length+1 - k) ++ Builtin.zeroCells (Value.int .i64 0).cells (G - (l0.length+1)):=⟨_,rfl⟩
   rw [← zf]
   have RE:((fj (Value.int .i64) l0).take k).length=k:=by rw [List.length_take];omega
   have hRs:ROW.size=G:=by
    rw [zf]
    simp [Builtin.zeroCells,Value.cells,RE]
    omega
   have hRt:ROW.toList.take k=(fj (Value.int .i64) l0).take k:=by
    rw [zf,Array.toList_append,Array.toList_append,List.append_assoc]
    exact List.take_left' RE
   obtain ⟨_,c2,f1,f2,f3⟩:=Sh (W:=(W1.alloc (.cells ROW 2)).drew) (g:=W1.heap.size) (k:=k) (n:=l0.length) (cur:=ROW) (cs:=fj (Value.int .i64) l0) (y:=.int .i64 y) (heap_alloc_new W1 _) hk hcl (by omega) hRt
   have hA:∀ (r:Option Nat),W1.grownBy (W1.alloc (.cells ROW 2)) r:=fun r=>FG W1 _ r
   have hbig:(W1.alloc (.cells ROW 2)).grownBy ((((W1.alloc (.cells ROW 2)).drew.setCells W1.heap.size k [.int .i64 y]).drew).setCells W1.heap.size (k+1) ((fj (Value.int .i64) l0).drop k)) (some W1.heap.size) :=
    World.grownBy.trans (JV _ _) (World.grownBy.trans (CJ _ _ _ _) (World.grownBy.trans (JV _ _) (CJ _ _ _ _)))
   have PR:W.grownBy ((((W1.alloc (.cells ROW 2)).drew.setCells W1.heap.size k [.int .i64 y]).drew).setCells W1.heap.size (k+1) ((fj (Value.int .i64) l0).drop k)) (some g):=by
    have h0:=World.grownBy.trans CL (hA (some g))
    refine ⟨hbig.os.trans h0.os,hbig.tape.trans h0.tape,hbig.output.trans h0.output,Nat.le_trans h0.size hbig.size,fun q hq hne=>?_⟩
    rw [hbig.block q (by have:=h0.size;omega) (by intro e;injection e with e;omega)]
    exact h0.block q hq hne
   refine ⟨_,rfl,Kd.Ay ⟨by simp [fj],.inr ⟨W1.heap.size,G,c2,by rw [hil],by omega,f1,by rw [hil];exact hGn,hGm,by omega,R5 c2 f3⟩⟩ (fun k_ b8=>?_),hB.grown PR hb (fun k_ b8=>by injection b8 with b8;omega),PR,.inr ⟨W1.heap.size,rfl,by omega⟩⟩
   refine hok k_ ?_
   have hk2:W1.heap.size=k_:=by simpa [Value.ownBlock] using b8
   omega
  refine (acA g l0.length c k W.heap.size (fj (Value.int .i64) l0) (.int .i64 y) _ hlt hroom (by unfold maxLen at sj;omega) (by omega) hcl hcell (fun j hj=>?_) (fun j _=>hfz j) R7 h1c rfl 2 2 1 cur.size ?_ ?_ (by omega) (ale hnew 0) (ale hnew 1)).mono ?_
  ·rw [av C4 j,Array.getElem?_eq_getElem (by omega)];rfl
  ·unfold World.shape?;rw [hnew];rfl
  ·unfold World.shape?;rw [C4]
  ·rintro e w' ⟨rfl, rfl⟩
   obtain ⟨⟨c2,f1,f2,f3⟩,_⟩:=Sh (W:=(W.alloc (.cells #[.int .i64 y] 2)).drew) (g:=g) (k:=k) (n:=l0.length) (cur:=cur) (cs:=fj (Value.int .i64) l0) (y:=.int .i64 y) C4 hk hcl (by omega) hkc.symm
   have hG:W.grownBy (((W.alloc (.cells #[.int .i64 y] 2)).drew.setCells g (k+1) ((fj (Value.int .i64) l0).drop k)).setCells g k [.int .i64 y]) (some g) :=
    World.grownBy.trans (FG W _ _) (World.grownBy.trans (JV _ _) (World.grownBy.trans (CJ g _ _ _) (CJ g _ _ _)))
   refine ⟨_,rfl,Kd.Ay ⟨by simp [fj],.inr ⟨g,c,c2,by rw [hil],J8,f1,by rw [hil];exact hroom,sj,by omega,R5 c2 f3⟩⟩ (fun k_ b8=>?_),hB.grown hG hb (fun k_ b8=>by injection b8 with b8;omega),hG,.inl rfl⟩
   exact hR.1 k_ b8
 obtain ⟨A,c,rfl⟩:=Kd.fh hR
 have Rl:qP l0 (k:Int) y=l0 ++ [y]:=by
  unfold qP
  rw [Int.toNat_natCast,hend,List.take_length,List.drop_length]
 rw [Rl]
 have hO:=Kd.bO hR (.cells #[.int .i64 y] 2)
 have PZ:Kd.R (Kd.int .i64) 2 (W.alloc (.cells #[.int .i64 y] 2)) W.heap.size (fun _=>True) (.slice (some ⟨W.heap.size,0,none⟩) 1 1) [y]:=by
  refine Kd.Ay ?_ (fun _ _=>trivial)
  have h2:=World.ownsRow_lit (base:=W.heap.size) (e:=2) (size:=1) W #[Value.int .i64 y] 1 (Nat.le_refl _) (by simp [maxLen]) (by simp)
  simpa [fj] using h2
 have HC:=k0 (Kd.bn PZ).2.2
 have HO:=k0 hO
 have kO:=k0 amD
 have anT:=k0 hok
 have U':=k0 CL
 have HS:=k0 hsize
 have HL:=k0 hL
 have yD:=k0 hb
 have kD:((k:Int) == (l0.length:Int))=true:=by simp [hend]
 have hkk:(k:Int)=(l0.length:Int):=by omega
 clear hR hO PZ amD hB hok CL hsize hL hnew Rl hb
 subst hend
 go_enter Try.func225,Try.ntmps225
 go_wp2_with (at_builtin;refine Kd.IV (Kd.int .i64) (w0:=w0) b rfl (.tmp 23) (.tmp 24) 28 2 (.int .i64 0) 8 rfl Try.underlying28 lF rfl (by decide) (by omega) (.slice A l0.length c) l0 [y] _ _ _ ok (fun _=>False) rfl rfl HO.out HC.out (fun _ _ h=>h) (fun _ h=>h.elim) (fun k hk=>anT.out k (by have:=HS.out;omega)) kO.out (by have:=HS.out;have:=yD.out;omega) (by have:=HL.out;simp;omega) ?_;intro v105 w5 ho hb hg cz;have Vr:=k0 ho;have U7:=k0 hb;have EK:=k0 (World.grownBy.trans U'.out hg);have U5:=k0 cz;clear ho hb hg cz)
 all_goals go_ret
 all_goals (try (have anX:c=l0.length:=(by assumption);subst anX))
 all_goals exact ⟨_,rfl,Vr.out,U7.out,EK.out,U5.out.imp id (fun ⟨k_,h1,h2⟩=>⟨k_,h1,by have:=HS.out;omega⟩)⟩
mutual
def cw.l0 : Nat → List Int → Int → List (List Int) → List Int → List (List Int) → Int → Int → Int → List (List Int) → Option (List Int)
 | 0,_,_,_,_,_,_,_,_,_=>none
 | k+1,x1,x2,x7,x8,G6,nY,qf,bU,bN=>if qf < nY then (if 0≤qf then (if qf < (G6.length:Int) then (if qf=x2 then (cw.l0 k x1 x2 x7 x8 G6 nY (wrap64 (qf+1)) bU bN) else ((oa.f (ag G6 qf)).bind fun t112=>(if 0≤x2 then (if x2 < (t112.length:Int) then (if x7.length < 5864062014805 then (if qf < (x1.length:Int) then (if x8.length < 17592186044416 then (cw.l0 k x1 x2 (x7 ++ [(t112.eraseIdx (x2:Int).toNat)]) (x8 ++ [rd x1 qf]) G6 nY (wrap64 (qf+1)) bU bN) else (none)) else (none)) else (none)) else (none)) else (none)))) else (none)) else (none)) else ((bq.f k x7).bind fun t125=>(cw.l1 k x1 x2 x7 x8 t125 (([]:List Int)) (x7.length:Int) 0 bU bN))
def cw.l1 : Nat → List Int → Int → List (List Int) → List Int → Int → List Int → Int → Int → Int → List (List Int) → Option (List Int)
 | 0,_,_,_,_,_,_,_,_,_,_=>none
 | k+1,x1,x2,x7,x8,fF,gN,Es,BD,bU,bN=>if BD < Es then (cw.l2 k x1 x2 x7 x8 fF gN BD (([]:List (List Int))) Es BD (x7.length:Int) 0 bU bN) else (if (gN.length < 17592186044416∧0≤x2∧x2≤(gN.length:Int)) then ((cG.f k bU bN x1 (qP gN x2 0)).bind fun t132=>(some t132)) else (none))
def cw.l2 : Nat → List Int → Int → List (List Int) → List Int → Int → List Int → Int → List (List Int) → Int → Int → Int → Int → Int → List (List Int) → Option (List Int)
 | 0,_,_,_,_,_,_,_,_,_,_,_,_,_,_=>none
 | k+1,x1,x2,x7,x8,fF,gN,jm,oQ,Es,BD,TU,Aa,bU,bN=>if Aa < TU then (if 0≤Aa then (if Aa < (x7.length:Int) then ((oa.f (ag x7 Aa)).bind fun t139=>(if Aa < (x8.length:Int) then (if 0≤jm then (if jm < (t139.length:Int) then (if oQ.length < 5864062014805 then (cw.l2 k x1 x2 x7 x8 fF gN jm (oQ ++ [(t139.set (jm:Int).toNat (rd x8 Aa))]) Es BD TU (wrap64 (Aa+1)) bU bN) else (none)) else (none)) else (none)) else (none))) else (none)) else (none)) else ((bq.f k oQ).bind fun t147=>((amM.f t147 fF).bind fun t148=>(if gN.length < 17592186044416 then (cw.l1 k x1 x2 x7 x8 fF (gN ++ [t148]) Es (wrap64 (BD+1)) bU bN) else (none))))
end
def cw.f (k:Nat) (af:Int) (aa:List (List Int)) (l1:List Int) (a2:Int):Option (List Int):=(cD.f k af aa).bind fun t108=>(cw.l0 k l1 a2 (([]:List (List Int))) (([]:List Int)) t108 (t108.length:Int) 0 af aa)
theorem cw.cj : ∀ k, (∀ y0 y1 y2 y3 y4 y5 y6 y7 y8, aj (cw.l0 k y0 y1 y2 y3 y4 y5 y6 y7 y8) (cw.l0 (k + 1) y0 y1 y2 y3 y4 y5 y6 y7 y8)) ∧ (∀ y0 y1 y2 y3 y4 y5 y6 y7 y8 y9, aj (cw.l1 k y0 y1 y2 y3 y4 y5 y6 y7 y8 y9) (cw.l1 (k + 1) y0 y1 y2 y3 y4 y5 y6 y7 y8 y9)) ∧ (∀ y0 y1 y2 y3 y4 y5 y6 y7 y8 y9 Et TX TY T2, aj (cw.l2 k y0 y1 y2 y3 y4 y5 y6 y7 y8 y9 Et TX TY T2) (cw.l2 (k + 1) y0 y1 y2 y3 y4 y5 y6 y7 y8 y9 Et TX TY T2))
 | 0=>⟨fun _ _ _ _ _ _ _ _ _ r h=>by simp [cw.l0] at h,fun _ _ _ _ _ _ _ _ _ _ r h=>by simp [cw.l1] at h,fun _ _ _ _ _ _ _ _ _ _ _ _ _ _ r h=>by simp [cw.l2] at h⟩
 | k+1=>by
  obtain ⟨ali,ih1,ih2⟩:=cw.cj k
  refine ⟨?_, ?_, ?_⟩ <;> intros <;> (first | unfold cw.l0 | unfold cw.l1 | unfold cw.l2) <;> repeat' first
   | (with_reducible first|exact ali _ _ _ _ _ _ _ _ _|exact ih1 _ _ _ _ _ _ _ _ _ _|exact ih2 _ _ _ _ _ _ _ _ _ _ _ _ _ _|exact cG.mono _ _ _ _ _|exact cD.mono _ _ _|exact bq.mono _ _|exact aj.refl _|exact aj.none _|refine aj.ite ?_ ?_|refine aj.bind ?_ (fun _=>?_))
   | exact ali _ _ _ _ _ _ _ _ _|exact ih1 _ _ _ _ _ _ _ _ _ _|exact ih2 _ _ _ _ _ _ _ _ _ _ _ _ _ _|exact cG.mono _ _ _ _ _|exact cD.mono _ _ _|exact bq.mono _ _|exact aj.none _|refine aj.ite ?_ ?_|refine aj.bind ?_ (fun _=>?_)
theorem cw.mono:∀ a0 a1 a2 a3 k,aj (cw.f k a0 a1 a2 a3) (cw.f (k+1) a0 a1 a2 a3):=by
 intro a0 a1 a2 a3 k
 obtain ⟨ali,ih1,ih2⟩:=cw.cj k
 unfold cw.f
 repeat' first
  | (with_reducible first|exact ali _ _ _ _ _ _ _ _ _|exact ih1 _ _ _ _ _ _ _ _ _ _|exact ih2 _ _ _ _ _ _ _ _ _ _ _ _ _ _|exact cG.mono _ _ _ _ _|exact cD.mono _ _ _|exact bq.mono _ _|exact aj.refl _|exact aj.none _|refine aj.ite ?_ ?_|refine aj.bind ?_ (fun _=>?_))
  | exact ali _ _ _ _ _ _ _ _ _|exact ih1 _ _ _ _ _ _ _ _ _ _|exact ih2 _ _ _ _ _ _ _ _ _ _ _ _ _ _|exact cG.mono _ _ _ _ _|exact cD.mono _ _ _|exact bq.mono _ _|exact aj.none _|refine aj.ite ?_ ?_|refine aj.bind ?_ (fun _=>?_)
def cw.Od:Bool × List (List Nat × List Nat):=(true,[([],[]),([],[]),([],[]),([],[]),([],[]),([2,3,4],[2,3,4]),([0,1,5,5],[0,1,5]),([6,6,0,1,2,3,4,5,6],[6])])
def cw.Up:List Nat:=[0,0,0,0,0,28,63,127]
theorem cw.aeW:gY .any (opsOf Try.f183 23)=cw.Od:=by kernel_rfl
theorem cw.W4:nV cw.Od.2 cw.Up=true:=by kernel_rfl
set_option maxHeartbeats 8000000 in
set_option maxRecDepth 100000 in
theorem cw.calls (k : Nat) (af : Int) (au : Option Addr) (aq : Nat) (aa : List (List Int)) (A1 : Option Addr) (c1 : Nat) (l1 : List Int) (a2 : Int) (r : List Int) (w : World) (cl : Kd.C (Kd.slice 2 (Kd.int .i64)) w au aa.length aa) (cn : aa.length ≤ aq) (cE : Kd.C (Kd.int .i64) w A1 l1.length l1) (dW : l1.length ≤ c1) (h : cw.f k af aa l1 a2 = some r) :
  Calls Try.prog 183 #[.agg #[.int .i64 af,.slice au aa.length aq],.slice A1 l1.length c1,.int .i64 a2] w fun e w'=>∃ cF:Value,e=.returned (cF)∧Kd.R (Kd.int .i64) 2 w' w.heap.size (fun _=>True) cF r∧Below w.heap.size w w':=by
 have kF:=Try.underlying31
 have alx:=k0 cl
 have di:=k0 cn
 clear cl cn
 have eP:=k0 cE
 have nk:=k0 dW
 clear cE dW
 have HB:=k0 (Below.refl w.heap.size w)
 have H:((cD.f k af aa).bind fun t108=>(cw.l0 k l1 a2 (([]:List (List Int))) (([]:List Int)) t108 (t108.length:Int) 0 af aa))=some r:=h
 clear h
 obtain ⟨eT,eH⟩:∃ y_:List (List Int),y_=(([]:List (List Int))):=⟨_,rfl⟩
 replace H:((cD.f k af aa).bind fun t108=>(cw.l0 k l1 a2 eT (([]:List Int)) t108 (t108.length:Int) 0 af aa))=some r:=by first|(rw [eH];with_reducible exact H)|(have ax:=(Option.bind_some _ _).symm.trans H;rw [eH];with_reducible exact ax)|(have ax:=(Option.bind_some _ _).symm.trans H;with_reducible exact ax)|with_reducible exact H|(rw [eH];exact H)|exact H
 have alG:=k0 eH
 clear eH
 obtain ⟨jn,alC⟩:∃ y_:List Int,y_=(([]:List Int)):=⟨_,rfl⟩
 replace H:((cD.f k af aa).bind fun t108=>(cw.l0 k l1 a2 eT jn t108 (t108.length:Int) 0 af aa))=some r:=by first|(rw [alC];with_reducible exact H)|(have ax:=(Option.bind_some _ _).symm.trans H;rw [alC];with_reducible exact ax)|(have ax:=(Option.bind_some _ _).symm.trans H;with_reducible exact ax)|with_reducible exact H|(rw [alC];exact H)|exact H
 have lJ:=k0 alC
 clear alC
 replace H:=Option.bind_eq_some_iff.mp H
 obtain ⟨t108,jH,H⟩:=H
 replace H:(cw.l0 k l1 a2 eT jn t108 (t108.length:Int) 0 af aa)=some r:=H
 have A4:=k0 jH
 clear jH
 have H':=k0 H
 clear H
 go_enter Try.func183,Try.ntmps183
 go_wp2_with (first|((with_reducible refine cy (N:=3) rfl ?_);refine ec ?hg (N:=3) ?hd (cs:=#[.int .i64 af,.slice au aa.length aq]) (t:=31) ?hr ?_;(case hd=>rfl);(case hg=>rfl);(case hr=>first|(go_simp;done)|(go_simp;rfl));intro ai hg w5 aJ hb;have ah:=k0 (aJ);have cr:=k0 ((by rw [hg];exact (aU bl):w.heap.size≤ai));have eL:=cr;replace HB:=k0 (aG bl hb);clear hb aJ hg)|((with_reducible refine cy (N:=18) rfl ?_);refine Kd.B7 (Kd.slice 2 (Kd.int .i64)) _ 28 ?hg (N:=18) ?hd (xs:=([]:List (List Int))) (inner:=[]) (ok:=fun _=>True) (cC:=fun _=>True) ?hr ?hp (fun _ hk=>hk) trivial (Below.refl _ _) (Nat.le_refl _) (by simp) ?_;(case hd=>rfl);(case hg=>rfl);(case hr=>first|(go_simp;done)|(go_simp;rfl));(case hp=>exact (bY.none _ _));intro dw w6 Da hb ew ey;clear ew ey;(first|rw [← alG.out] at Da|(simp only [Int.reduceToNat] at Da;rw [← alG.out] at Da));have a_:=k0 (Kd.pU Da (aU bl));replace ah:=k0 (alg (g:=ai) (o:=sO af au aa aq 31) bk hb);replace HB:=k0 (aG bl hb);clear hb Da)|((with_reducible refine cy (N:=19) rfl ?_);refine Kd.pT (Kd.int .i64) _ 2 ?hg (N:=19) ?hd (xs:=([]:List Int)) (inner:=[]) (ok:=fun _=>True) (cC:=fun _=>True) ?hr ?hp (fun _ hk=>hk) trivial (Below.refl _ _) (Nat.le_refl _) (by simp) ?_;(case hd=>rfl);(case hg=>rfl);(case hr=>first|(go_simp;done)|(go_simp;rfl));(case hp=>exact (bY.none _ _));intro gj w8 rJ hb ew ey;clear ew ey;(first|rw [← lJ.out] at rJ|(simp only [Int.reduceToNat] at rJ;rw [← lJ.out] at rJ));replace a_:=k0 (Kd.qw (aS a_.out) (Kd.dV rJ) hb);have cO:=k0 (Kd.d_ rJ (aU bl));replace ah:=k0 (alg (g:=ai) (o:=sO af au aa aq 31) bk hb);replace HB:=k0 (aG bl hb);clear hb rJ;have wj:w8.cell? ⟨ai,0,none⟩=some (.int .i64 af):=(av ah.out 0).trans rfl;have wk:w8.cell? ⟨ai,1,none⟩=some (.slice au aa.length aq):=(av ah.out 1).trans rfl;have amG:=ale ah.out 0;have wB:=ale ah.out 1)|((with_reducible refine fo (f:=195) rfl ?_);refine fq (some 21) rfl rfl Try.func195 (by kernel_rfl) rfl #[.agg #[.int .i64 af,.slice au aa.length aq]] rfl gm ?_;(with_reducible refine (cD.calls k af _ _ aa t108 _ ?bt ?bu A4.out).mono ?_);(case bt=>exact aC (Kd.bI alx.out HB.out));(case bu=>exact di.out);rintro e eM ⟨v109,rfl,aY,hb⟩;refine ⟨_,rfl,?_⟩;have Al:=k0 (Kd.pU (Kd.AE (Kd.AE aY (Kd.E9 (aS a_.out))) (Kd.eZ (aR cO.out))) (aU bl));replace a_:=k0 (Kd.qw (aS a_.out) (Kd.N8 aY) hb);replace cO:=k0 (Kd.ct (aR cO.out) hb);replace ah:=k0 (alg (g:=ai) (o:=sO af au aa aq 31) bk hb);replace HB:=k0 (aG bl hb);(try clear hb);(try clear aY);obtain ⟨jI,gT,vY⟩:=Kd.qx Al.out;subst vY))
 go_loopg [7,8,23] k (fun kq v7 v8 v23 w'=>∃ (iB:List (List Int)) (bF:List Int) (gz:Int),v23=.int .i64 gz∧ak (cw.l0 kq l1 a2 iB bF t108 (t108.length:Int) gz af aa=some r)∧ak (kq≤k)∧ak (Kd.S (Kd.slice 2 (Kd.int .i64)) 28 w' w.heap.size (fun k_=>some k_ ≠ (v8:Value).ownBlock∧some k_ ≠ ((.slice jI t108.length gT):Value).ownBlock) v7 iB)∧ak (Kd.R (Kd.int .i64) 2 w' w.heap.size (fun _=>True) v8 bF)∧ak (Kd.S (Kd.slice 2 (Kd.int .i64)) 28 w' w.heap.size (fun k_=>some k_ ≠ (v7:Value).ownBlock∧some k_ ≠ (v8:Value).ownBlock) (.slice jI t108.length gT) t108)∧ak (w'.heap[ai]?=some (sO af au aa aq 31))∧ak (Below w.heap.size w w'))
 case atStart=>exact ⟨(eT),(jn),(0),rs,H',⟨Nat.le_refl _⟩,⟨aS (Kd.iM a_.out (fun _ hk=>⟨hk.1.2,hk.2⟩))⟩,⟨aR (cO.out)⟩,⟨aS (Kd.iM Al.out (fun _ hk=>⟨hk.1.2,hk.2⟩))⟩,⟨bk⟩,⟨bl⟩⟩
 case round =>
  clear H'
  (try clear wj);(try clear wk);(try clear amG);(try clear wB)
  obtain ⟨iB,bF,gz,rfl,HA,aM,cP,bG,kk,ah,HB⟩:=hrel
  cases gk with
  | zero=>exact absurd HA.out (by simp [cw.l0])
  | succ k1 =>
   have H:=HA.out
   clear HA
   simp only [cw.l0] at H
   by_cases c13:gz < (t108.length:Int)
   case neg =>
    rw [if_neg c13] at H
    have kU:decide (gz < (t108.length:Int))=false:=decide_eq_false c13
    clear c13
    replace H:=Option.bind_eq_some_iff.mp H
    obtain ⟨t125,Mv,H⟩:=H
    replace H:(cw.l1 k1 l1 a2 iB bF t125 (([]:List Int)) (iB.length:Int) 0 af aa)=some r:=H
    have EA:=k0 Mv
    clear Mv
    obtain ⟨an4,DJ⟩:∃ y_:List Int,y_=(([]:List Int)):=⟨_,rfl⟩
    replace H:(cw.l1 k1 l1 a2 iB bF t125 an4 (iB.length:Int) 0 af aa)=some r:=by first|(rw [DJ];with_reducible exact H)|(have ax:=(Option.bind_some _ _).symm.trans H;rw [DJ];with_reducible exact ax)|(have ax:=(Option.bind_some _ _).symm.trans H;with_reducible exact ax)|with_reducible exact H|(rw [DJ];exact H)|exact H
    have N0:=k0 DJ
    clear DJ
    have H':=k0 H
    clear H
    obtain ⟨amL,qA,Jx⟩:=Kd.qx cP.out
    subst Jx
    go_wp2_with (first|((with_reducible refine fo (f:=223) rfl ?_);refine fq (some 49) rfl rfl Try.func223 (by kernel_rfl) rfl #[.slice amL iB.length qA] rfl gm ?_;(with_reducible refine (bq.calls k1 _ _ iB t125 _ ?bt ?bu EA.out).mono ?_);(case bt=>exact aC ((Kd.ck cP.out).2.2));(case bu=>exact (Kd.ck cP.out).2.1);rintro e aml ⟨rfl,hb⟩;refine ⟨_,rfl,?_⟩;replace cP:=k0 (Kd.jt (aS cP.out) hb);replace bG:=k0 (Kd.ct (aR bG.out) hb);replace kk:=k0 (Kd.jt (aS kk.out) hb);replace ah:=k0 (alg (g:=ai) (o:=sO af au aa aq 31) bk hb);replace HB:=k0 (aG bl hb);(try clear hb))|((with_reducible refine cy (N:=50) rfl ?_);refine Kd.pT (Kd.int .i64) _ 2 ?hg (N:=50) ?hd (xs:=([]:List Int)) (inner:=[]) (ok:=fun _=>True) (cC:=fun _=>True) ?hr ?hp (fun _ hk=>hk) trivial (Below.refl _ _) (Nat.le_refl _) (by simp) ?_;(case hd=>rfl);(case hg=>rfl);(case hr=>first|(go_simp;done)|(go_simp;rfl));(case hp=>exact (bY.none _ _));intro v127 z8 amV hb ew ey;clear ew ey;(first|rw [← N0.out] at amV|(simp only [Int.reduceToNat] at amV;rw [← N0.out] at amV));replace cP:=k0 (Kd.qw (aS cP.out) (Kd.dV amV) hb);replace kk:=k0 (Kd.qw (aS kk.out) (Kd.dV amV) hb);have uH:=k0 (Kd.d_ (Kd.alF amV (Kd.eZ (aR bG.out))) (aU bl));replace bG:=k0 (Kd.gK (aR bG.out) (Kd.dV amV) hb);replace ah:=k0 (alg (g:=ai) (o:=sO af au aa aq 31) bk hb);replace HB:=k0 (aG bl hb);clear hb amV))
    go_loopg [12,53] k1 (fun kq v12 v53 w'=>∃ (dF:List (List Int)) (mF:List Int) (al2:List Int) (jG:Int),v53=.int .i64 jG∧ak (cw.l1 kq l1 a2 dF mF t125 al2 (iB.length:Int) jG af aa=some r)∧ak (kq≤k1)∧ak (Kd.S (Kd.slice 2 (Kd.int .i64)) 28 w' w.heap.size (fun k_=>some k_ ≠ (u8:Value).ownBlock∧some k_ ≠ (v12:Value).ownBlock) (.slice amL iB.length qA) dF)∧ak (Kd.R (Kd.int .i64) 2 w' w.heap.size (fun k_=>some k_ ≠ (v12:Value).ownBlock) u8 mF)∧ak (Kd.R (Kd.int .i64) 2 w' w.heap.size (fun k_=>some k_ ≠ (u8:Value).ownBlock) v12 al2)∧ak (w'.heap[ai]?=some (sO af au aa aq 31))∧ak (Below w.heap.size w w'))
    case atStart=>exact ⟨(iB),(bF),(an4),(0),rs,H',⟨Nat.le_refl _⟩,⟨aS (Kd.iM cP.out (fun _ hk=>⟨hk.1.1,hk.2⟩))⟩,⟨aR (Kd.bx bG.out (fun _ hk=>hk.2))⟩,⟨aR (Kd.bx uH.out (fun _ hk=>hk.2))⟩,⟨bk⟩,⟨bl⟩⟩
    case round =>
     clear H'
     (try clear c13);(try clear kU);(try clear c14);(try clear kC);(try clear c15);(try clear kV);(try clear c16);(try clear rm);(try clear AP);(try clear c18);(try clear uP);(try clear c19);(try clear mb);(try clear c20);(try clear c21);(try clear uQ);(try clear c22);(try clear wj);(try clear wk);(try clear amG);(try clear wB);(try clear gX);(try clear am4);(try clear gw);(try clear wO);(try clear gy);(try clear wR)
     obtain ⟨dF,mF,al2,jG,rfl,HA,bp,cP,bG,gC,ah,HB⟩:=hrel
     have jX:=(Kd.ck cP.out).1
     rw [jX] at cP
     (try simp only [jX])
     (try simp only [jX] at ah)
     (try simp only [jX] at bG)
     (try simp only [jX] at gC)
     cases gk with
     | zero=>exact absurd HA.out (by simp [cw.l1])
     | succ k2 =>
      have H:=HA.out
      clear HA
      simp only [cw.l1] at H
      by_cases c34:jG < (iB.length:Int)
      case neg =>
       rw [if_neg c34] at H
       have vS:decide (jG < (iB.length:Int))=false:=decide_eq_false c34
       (try simp only [jX] at vS)
       clear c34
       replace H:=iS H;obtain ⟨c57,H⟩:=H
       have Iz:=k0 c57
       clear c57
       obtain ⟨Mm,DK⟩:∃ y_:List Int,y_=(qP al2 a2 0):=⟨_,rfl⟩
       replace H:((cG.f k2 af aa l1 Mm).bind fun t132=>(some t132))=some r:=by first|(rw [DK];with_reducible exact H)|(have ax:=(Option.bind_some _ _).symm.trans H;rw [DK];with_reducible exact ax)|(have ax:=(Option.bind_some _ _).symm.trans H;with_reducible exact ax)|with_reducible exact H|(rw [DK];exact H)|exact H
       have V5:=k0 DK
       clear DK
       replace H:=Option.bind_eq_some_iff.mp H
       obtain ⟨t132,MC,H⟩:=H
       replace H:(some t132)=some r:=H
       have Ub:=k0 MC
       clear MC
       obtain rfl:=Option.some.inj H
       try go_wp2
       replace cP:=k0 (Kd.fI cP.out);replace bG:=k0 (Kd.alp bG.out);replace gC:=k0 (Kd.alp gC.out);replace ah:=k0 (bJ ah.out);replace HB:=k0 (bH HB.out)
       refine nT (n:=8) (S:=fun w'=>w'.cell? ⟨ai,0,none⟩=some (.int .i64 af)∧w'.cell? ⟨ai,1,none⟩=some (.slice au aa.length aq)) (ds:=[]) (ba 8 0) (by kernel_rfl) rfl rfl ⟨(av ah.out 0).trans rfl,(av ah.out 1).trans rfl⟩ (fun hHeld=>?_);refine rQ cw.aeW cw.W4 (fun alc dG=>?_)
       generalize wr.drew=Bz at cP bG gC ah HB hHeld ⊢
       refine pu 1 (some 87) (ba 8 2) alc (h:=?_)
       refine pu 2 (some 88) (ba 8 6) alc (h:=?_)
       refine pu 3 (some 89) (ba 8 14) alc (h:=?_)
       refine ta 0 (some 86) (ba 8 15) alc dG hHeld (hy:=Or.inl ⟨by rfl,by rintro w' ⟨s0,s1⟩;go_simp;with_reducible rfl⟩) (h:=?_)
       refine sG (i:=4) (N:=some 90) (ba 8 31) rfl rfl (lG alc.out (by kernel_rfl)) (by decide) (fun K hK=>?_)
       refine Mc (w1:=?_) (v:=?_) (by rfl) rfl ?_ ?_
       rotate_left 2
       ·go_simp
        constructor
        ·rfl
        ·rfl
       refine hK.out _ _ ⟨(av (alo ah.out _) 0).trans rfl,(av (alo ah.out _) 1).trans rfl⟩ (fun hHeld=>?_)
       clear hK K
       refine dY (a':=?_) ?_ ?_
       rotate_left;· show Act.put _ (some 90) _=_;simp only [Act.put,zI,zZ,zS,cQ,dr];rfl
       refine sG (i:=5) (N:=some 91) (ba 8 63) rfl rfl (lG alc.out (by kernel_rfl)) (by decide) (fun K hK=>?_)
       refine rC Try.func225 (by kernel_rfl) rfl #[u12,.int .i64 a2,.slice (some ⟨Bz.heap.size,0,none⟩) 1 1] (by rfl) rfl rfl gm ?_
       refine (acy 0 al2 a2 Bz w w.heap.size (fun k_=>some k_ ≠ (u8:Value).ownBlock) u12 (aR gC.out) (fun k_ hk=>Kd.fresh' (Kd.eZ (aR bG.out)) k_ hk) Iz.out.2.1 Iz.out.2.2 bl (aU bl) Iz.out.1).mono ?_
       rintro e w60 ⟨v130,rfl,ho,hb,hg,cz⟩
       refine ⟨_,rfl,?_⟩
       rw [← V5.out] at ho
       have aK:=k0 (Kd.sX (ok:=(fun k_=>some k_ ≠ (u8:Value).ownBlock)) (aS cP.out) hg cz)
       have alf:=k0 (Kd.pS (ok:=(fun _=>True)) (by (with_reducible repeat (first|apply Kd.bO|apply Kd.bR|apply Kd.alp));exact Kd.bx bG.out (fun _ hk=>⟨trivial,hk⟩)) hg cz)
       have alj:=k0 (jv (g:=ai) (o:=sO af au aa aq 31) bk hg (Kd.iG gC.out ah.out (by decide)))
       have bw:=k0 (hb)
       have bQ:=k0 (ho)
       clear cP
       clear bG
       clear ah
       clear HB
       clear gC
       have cP:=aK
       have bG:=alf
       have ah:=alj
       have HB:=bw
       have xg:=bQ
       clear aK alf alj bw bQ
       clear ho hb hg cz
       obtain ⟨Ui,Yo,Pc⟩:=Kd.fh xg.out
       (first|subst Pc|(injection Pc with ox amt nI;have amu:=ox.symm;have amv:=nI.symm;clear ox amt nI;subst amu;subst amv))
       refine hK.out _ _ ⟨(av ah.out 0).trans rfl,(av ah.out 1).trans rfl⟩ (fun hHeld=>?_)
       clear hK K
       refine dY (a':=?_) ?_ ?_
       rotate_left;· show Act.put _ (some 91) _=_;simp only [Act.put,zI,zZ,zS,cQ,dr];rfl
       refine sG (i:=6) (N:=some 92) (ba 8 127) rfl rfl (lG alc.out (by kernel_rfl)) (by decide) (fun K hK=>?_)
       refine rC Try.func186 (by kernel_rfl) rfl #[.agg #[.int .i64 af,.slice au aa.length aq],.slice A1 l1.length c1,.slice Ui Mm.length Yo] (by rfl) rfl rfl gm ?_
       with_reducible refine (cG.calls k2 af _ _ aa _ _ l1 _ _ Mm t132 _ ?bt ?bu ?dZ ?ez ?rO ?rP Ub.out).mono ?_
       (case bt=>exact aC (Kd.bI alx.out HB.out))
       (case bu=>exact di.out)
       (case dZ=>exact aC (Kd.bI eP.out HB.out))
       (case ez=>exact nk.out)
       (case rO=>exact aC ((Kd.bn xg.out).2.2))
       (case rP=>exact (Kd.bn xg.out).2.1)
       rintro e w62 ⟨akA,rfl,aY,hb⟩
       refine ⟨_,rfl,?_⟩
       replace cP:=k0 (Kd.qw (aS cP.out) (Kd.dV aY) hb);have Vn:=k0 (Kd.d_ (Kd.alF (Kd.alF aY (Kd.eZ (aR bG.out))) (Kd.eZ (aR xg.out))) (aU bl));replace bG:=k0 (Kd.gK (aR bG.out) (Kd.dV aY) hb);replace xg:=k0 (Kd.gK (aR xg.out) (Kd.dV aY) hb);replace ah:=k0 (alg (g:=ai) (o:=sO af au aa aq 31) bk hb);replace HB:=k0 (aG bl hb)
       (try clear hb);(try clear aY)
       refine hK.out _ _ ⟨(av ah.out 0).trans rfl,(av ah.out 1).trans rfl⟩ (fun hHeld=>?_)
       clear hK K
       refine dY (a':=?_) ?_ ?_
       rotate_left;· show Act.put _ (some 92) _=_;simp only [Act.put,zI,zZ,zS,cQ,dr];rfl
       refine pu 7 (some 6) (ba 8 255) alc (h:=?_)
       refine nH (rz alc.out (by kernel_rfl)) ?_
       try go_wp2
       go_ret
       exact ⟨_,by first|rfl|(simp [bA,bB]<;>rfl)|(simp [*,bA,bB]<;>rfl),by (with_reducible repeat (first|apply Kd.bO|apply Kd.bR|apply Kd.alp));exact Kd.bx Vn.out (fun _ hk=>trivial),bl⟩
      rw [if_pos c34] at H
      have vS:=decide_eq_true c34
      (try simp only [jX] at vS)
      clear c34
      obtain ⟨T4,DN⟩:∃ y_:List (List Int),y_=(([]:List (List Int))):=⟨_,rfl⟩
      replace H:(cw.l2 k2 l1 a2 dF mF t125 al2 jG T4 (iB.length:Int) jG (dF.length:Int) 0 af aa)=some r:=by first|(rw [DN];with_reducible exact H)|(have ax:=(Option.bind_some _ _).symm.trans H;rw [DN];with_reducible exact ax)|(have ax:=(Option.bind_some _ _).symm.trans H;with_reducible exact ax)|with_reducible exact H|(rw [DN];exact H)|exact H
      have N1:=k0 DN
      clear DN
      have H':=k0 H
      clear H
      go_wp2_with (first|((with_reducible refine cy (N:=56) rfl ?_);refine Kd.B7 (Kd.slice 2 (Kd.int .i64)) _ 28 ?hg (N:=56) ?hd (xs:=([]:List (List Int))) (inner:=[]) (ok:=fun _=>True) (cC:=fun _=>True) ?hr ?hp (fun _ hk=>hk) trivial (Below.refl _ _) (Nat.le_refl _) (by simp) ?_;(case hd=>rfl);(case hg=>rfl);(case hr=>first|(go_simp;done)|(go_simp;rfl));(case hp=>exact (bY.none _ _));intro akB vq qL hb ew ey;clear ew ey;(first|rw [← N1.out] at qL|(simp only [Int.reduceToNat] at qL;rw [← N1.out] at qL));have Vo:=k0 (Kd.pU (Kd.AE (Kd.AE (Kd.AE qL (Kd.E9 (aS cP.out))) (Kd.eZ (aR bG.out))) (Kd.eZ (aR gC.out))) (aU bl));replace cP:=k0 (Kd.qw (aS cP.out) (Kd.N8 qL) hb);replace bG:=k0 (Kd.ct (aR bG.out) hb);replace gC:=k0 (Kd.ct (aR gC.out) hb);replace ah:=k0 (alg (g:=ai) (o:=sO af au aa aq 31) bk hb);replace HB:=k0 (aG bl hb);clear hb qL))
      go_loopg [14,59] k2 (fun kq G3 v59 w'=>∃ (alY:List (List Int)) (aln:List Int) (cA:List Int) (sN:List (List Int)) (kg:Int),v59=.int .i64 kg∧ak (cw.l2 kq l1 a2 alY aln t125 cA jG sN (iB.length:Int) jG (dF.length:Int) kg af aa=some r)∧ak (kq≤k2)∧ak (Kd.S (Kd.slice 2 (Kd.int .i64)) 28 w' w.heap.size (fun k_=>some k_ ≠ (u8:Value).ownBlock∧some k_ ≠ (u12:Value).ownBlock∧some k_ ≠ (G3:Value).ownBlock) (.slice amL dF.length qA) alY)∧ak (Kd.R (Kd.int .i64) 2 w' w.heap.size (fun k_=>some k_ ≠ (u12:Value).ownBlock) u8 aln)∧ak (Kd.R (Kd.int .i64) 2 w' w.heap.size (fun k_=>some k_ ≠ (u8:Value).ownBlock) u12 cA)∧ak (Kd.S (Kd.slice 2 (Kd.int .i64)) 28 w' w.heap.size (fun k_=>some k_ ≠ ((.slice amL dF.length qA):Value).ownBlock∧some k_ ≠ (u8:Value).ownBlock∧some k_ ≠ (u12:Value).ownBlock) G3 sN)∧ak (w'.heap[ai]?=some (sO af au aa aq 31))∧ak (Below w.heap.size w w'))
      case atStart=>exact ⟨(dF),(mF),(al2),(T4),(0),rs,H',⟨Nat.le_refl _⟩,⟨by (try simp only [jX]);(with_reducible repeat (first|apply Kd.alN|apply Kd.ig|apply Kd.fI));exact Kd.iM cP.out (fun _ hk=>⟨hk.1.1,⟨hk.1.2,hk.2⟩⟩)⟩,⟨by (try simp only [jX]);(with_reducible repeat (first|apply Kd.bO|apply Kd.bR|apply Kd.alp));exact bG.out⟩,⟨by (try simp only [jX]);(with_reducible repeat (first|apply Kd.bO|apply Kd.bR|apply Kd.alp));exact gC.out⟩,⟨by (try simp only [jX]);(with_reducible repeat (first|apply Kd.alN|apply Kd.ig|apply Kd.fI));exact Kd.iM Vo.out (fun _ hk=>⟨hk.1.1.2,⟨hk.1.2,hk.2⟩⟩)⟩,⟨by (try simp only [jX]);exact bk⟩,⟨bl⟩⟩
      case round =>
       clear H'
       (try clear c13);(try clear kU);(try clear c14);(try clear kC);(try clear c15);(try clear kV);(try clear c16);(try clear rm);(try clear AP);(try clear c18);(try clear uP);(try clear c19);(try clear mb);(try clear c20);(try clear c21);(try clear uQ);(try clear c22);(try clear c34);(try clear vS);(try clear wj);(try clear wk);(try clear amG);(try clear wB);(try clear gX);(try clear am4);(try clear gw);(try clear wO);(try clear gy);(try clear wR)
       obtain ⟨alY,aln,cA,sN,kg,rfl,HA,dn,cP,bG,gC,lX,ah,HB⟩:=hrel
       have lB:=(Kd.ck cP.out).1
       rw [lB] at cP
       (try simp only [lB])
       (try simp only [lB] at ah)
       (try simp only [lB] at bG)
       (try simp only [lB] at gC)
       (try simp only [lB] at lX)
       cases gk with
       | zero=>exact absurd HA.out (by simp [cw.l2])
       | succ k3 =>
        have H:=HA.out
        clear HA
        simp only [cw.l2] at H
        by_cases c37:kg < (dF.length:Int)
        case neg =>
         rw [if_neg c37] at H
         have Jg:decide (kg < (dF.length:Int))=false:=decide_eq_false c37
         (try simp only [jX,lB] at Jg)
         clear c37
         replace H:=Option.bind_eq_some_iff.mp H
         obtain ⟨t147,BL,H⟩:=H
         replace H:((amM.f t147 t125).bind fun t148=>(if cA.length < 17592186044416 then (cw.l1 k3 l1 a2 alY aln t125 (cA ++ [t148]) (iB.length:Int) (wrap64 (jG+1)) af aa) else (none)))=some r:=H
         have Hi:=k0 BL
         clear BL
         replace H:=Option.bind_eq_some_iff.mp H
         obtain ⟨t148,MB,H⟩:=H
         replace H:(if cA.length < 17592186044416 then (cw.l1 k3 l1 a2 alY aln t125 (cA ++ [t148]) (iB.length:Int) (wrap64 (jG+1)) af aa) else (none))=some r:=H
         have Ua:=k0 MB
         clear MB
         replace H:=iS H;obtain ⟨c53,H⟩:=H
         have VP:=k0 c53
         clear c53
         obtain ⟨T7,DQ⟩:∃ y_:List Int,y_=(cA ++ [t148]):=⟨_,rfl⟩
         replace H:(cw.l1 k3 l1 a2 alY aln t125 T7 (iB.length:Int) (wrap64 (jG+1)) af aa)=some r:=by first|(rw [DQ];with_reducible exact H)|(have ax:=(Option.bind_some _ _).symm.trans H;rw [DQ];with_reducible exact ax)|(have ax:=(Option.bind_some _ _).symm.trans H;with_reducible exact ax)|with_reducible exact H|(rw [DQ];exact H)|exact H
         have V_:=k0 DQ
         clear DQ
         have H':=k0 H
         clear H
         obtain ⟨MM,OU,Ze⟩:=Kd.qx lX.out
         subst Ze
         go_wp2_with (first|((with_reducible refine fo (f:=223) rfl ?_);refine fq (some 80) rfl rfl Try.func223 (by kernel_rfl) rfl #[.slice MM sN.length OU] rfl gm ?_;(with_reducible refine (bq.calls k3 _ _ sN t147 _ ?bt ?bu Hi.out).mono ?_);(case bt=>exact aC ((Kd.ck lX.out).2.2));(case bu=>exact (Kd.ck lX.out).2.1);rintro e w55 ⟨rfl,hb⟩;refine ⟨_,rfl,?_⟩;replace cP:=k0 (Kd.jt (aS cP.out) hb);replace bG:=k0 (Kd.ct (aR bG.out) hb);replace gC:=k0 (Kd.ct (aR gC.out) hb);replace lX:=k0 (Kd.jt (aS lX.out) hb);replace ah:=k0 (alg (g:=ai) (o:=sO af au aa aq 31) bk hb);replace HB:=k0 (aG bl hb);(try clear hb))|((with_reducible refine fo (f:=224) rfl ?_);refine fq (some 82) rfl rfl Try.func224 (by kernel_rfl) rfl #[.int .i64 t147,.int .i64 t125] rfl gm ?_;(with_reducible refine (amM.calls t147 t125 t148 _ Ua.out).mono ?_);rintro e w' ⟨rfl,⟨nd,rfl⟩⟩;refine ⟨_,rfl,?_⟩)|((with_reducible refine pI (b:=.append) (xs:=#[.tmp 78,.tmp 83]) rfl ?_);at_builtin;refine Kd.uL (Kd.int .i64) (w0:=w) w.heap.size rfl (.tmp 78) (.tmp 83) 28 2 (.int .i64 0) 8 rfl Try.underlying28 lF rfl (by decide) (by omega) u12 cA t148 [.int .i64 t148] (fun k_=>some k_ ≠ (u8:Value).ownBlock) (fun _=>False) rfl rfl ?aP (fun _ hk=>hk.elim) ?aF ?aO ?aB ?aS ?aL ?_;(case aP=>exact rfl);(case aB=>exact bl);(case aF=>exact (fun k_ hk=>Kd.fresh' (Kd.eZ (aR bG.out)) k_ hk));(case aO=>exact (aR gC.out));(case aS=>exact (aU bl));(case aL=>have:=VP.out;omega);intro akD w56 ho hb hg cz;rw [← V_.out] at ho;have aK:=k0 (Kd.sX (ok:=(fun k_=>some k_ ≠ (u8:Value).ownBlock∧some k_ ≠ (.slice MM sN.length OU:Value).ownBlock)) (by (with_reducible repeat (first|apply Kd.alN|apply Kd.ig|apply Kd.fI));exact Kd.iM cP.out (fun _ hk=>⟨⟨hk.1,hk.2.2⟩,hk.2.1⟩)) hg cz);have alf:=k0 (Kd.pS (ok:=(fun _=>True)) (by (with_reducible repeat (first|apply Kd.bO|apply Kd.bR|apply Kd.alp));exact Kd.bx bG.out (fun _ hk=>⟨trivial,hk⟩)) hg cz);have alj:=k0 (Kd.sX (ok:=(fun k_=>some k_ ≠ (.slice amL alY.length qA:Value).ownBlock∧some k_ ≠ (u8:Value).ownBlock)) (by (with_reducible repeat (first|apply Kd.alN|apply Kd.ig|apply Kd.fI));exact Kd.iM lX.out (fun _ hk=>⟨⟨hk.1,hk.2.1⟩,hk.2.2⟩)) hg cz);have bw:=k0 (jv (g:=ai) (o:=sO af au aa aq 31) bk hg (Kd.iG gC.out ah.out (by decide)));have bQ:=k0 (hb);have bZ:=k0 (ho);clear cP;clear bG;clear lX;clear ah;clear HB;clear gC;have cP:=aK;have bG:=alf;have lX:=alj;have ah:=bw;have HB:=bQ;have Vq:=bZ;clear aK alf alj bw bQ bZ;clear ho hb hg cz))
         (try simp only [← jX,← lB])
         go_roundg k3
         case measure=>have:=aM.out;have:=bp.out;have:=dn.out;omega
         case rel=>exact ⟨(alY),(aln),(T7),(wrap64 (jG+1)),rs,H',⟨by have:=aM.out;have:=bp.out;have:=dn.out;omega⟩,⟨by (try simp only [jX]);(try simp only [lB]);(with_reducible repeat (first|apply Kd.alN|apply Kd.ig|apply Kd.fI));exact Kd.iM cP.out (fun _ hk=>⟨hk.1.1,hk.2⟩)⟩,⟨by (try simp only [jX]);(try simp only [lB]);(with_reducible repeat (first|apply Kd.bO|apply Kd.bR|apply Kd.alp));exact Kd.bx bG.out (fun _ hk=>hk.2)⟩,⟨by (try simp only [jX]);(try simp only [lB]);(with_reducible repeat (first|apply Kd.bO|apply Kd.bR|apply Kd.alp));exact Vq.out⟩,⟨by (try simp only [jX]);(try simp only [lB]);exact bk⟩,⟨bl⟩⟩
        rw [if_pos c37] at H
        have Jg:=decide_eq_true c37
        (try simp only [jX,lB] at Jg)
        clear c37
        replace H:=iS H;obtain ⟨c38,H⟩:=H
        have xy:=decide_eq_true c38
        clear c38
        replace H:=iS H;obtain ⟨c39,H⟩:=H
        have Fm:=decide_eq_true c39
        (try simp only [jX,lB] at Fm)
        clear c39
        replace H:=Option.bind_eq_some_iff.mp H
        obtain ⟨t139,Mw,H⟩:=H
        replace H:(if kg < (aln.length:Int) then (if 0≤jG then (if jG < (t139.length:Int) then (if sN.length < 5864062014805 then (cw.l2 k3 l1 a2 alY aln t125 cA jG (sN ++ [(t139.set (jG:Int).toNat (rd aln kg))]) (iB.length:Int) jG (dF.length:Int) (wrap64 (kg+1)) af aa) else (none)) else (none)) else (none)) else (none))=some r:=H
        have jH:=k0 Mw
        clear Mw
        replace H:=iS H;obtain ⟨c41,H⟩:=H
        have AU:=decide_eq_true c41
        (try simp only [jX,lB] at AU)
        clear c41
        replace H:=iS H;obtain ⟨c42,H⟩:=H
        have xz:=decide_eq_true c42
        clear c42
        replace H:=iS H;obtain ⟨c43,H⟩:=H
        have OD:=decide_eq_true c43
        (try simp only [jX,lB] at OD)
        clear c43
        obtain ⟨He,DO⟩:∃ y_:List Int,y_=(t139.set (jG:Int).toNat (rd aln kg)):=⟨_,rfl⟩
        replace H:(if sN.length < 5864062014805 then (cw.l2 k3 l1 a2 alY aln t125 cA jG (sN ++ [He]) (iB.length:Int) jG (dF.length:Int) (wrap64 (kg+1)) af aa) else (none))=some r:=by first|(rw [DO];with_reducible exact H)|(have ax:=(Option.bind_some _ _).symm.trans H;rw [DO];with_reducible exact ax)|(have ax:=(Option.bind_some _ _).symm.trans H;with_reducible exact ax)|with_reducible exact H|(rw [DO];exact H)|exact H
        have V8:=k0 DO
        clear DO
        replace H:=iS H;obtain ⟨c45,H⟩:=H
        have VO:=k0 c45
        clear c45
        obtain ⟨T6,DP⟩:∃ y_:List (List Int),y_=(sN ++ [He]):=⟨_,rfl⟩
        replace H:(cw.l2 k3 l1 a2 alY aln t125 cA jG T6 (iB.length:Int) jG (dF.length:Int) (wrap64 (kg+1)) af aa)=some r:=by first|(rw [DP];with_reducible exact H)|(have ax:=(Option.bind_some _ _).symm.trans H;rw [DP];with_reducible exact ax)|(have ax:=(Option.bind_some _ _).symm.trans H;with_reducible exact ax)|with_reducible exact H|(rw [DP];exact H)|exact H
        have V9:=k0 DP
        clear DP
        have H':=k0 H
        clear H
        have GM:0≤(kg:Int):=oD
        have GV:kg < (alY.length:Int):=oD
        obtain ⟨AH,Hh,Jb,e138,ab5,RB,Rj⟩:=cZ (Kd.ck cP.out).2.2 kg GM GV
        cases e138
        obtain ⟨ag3,aaG,aas,Qr⟩:=Kd.l6 cP.out [] kg GM (by first|exact GV|exact oD|(have e_:=(Kd.ck cP.out).1;omega))
        obtain ⟨akV,rfl,JP⟩:=aas
        have Du:=Qr 0 _ rfl
        rw [Nat.add_zero,show ((Kd.slice 2 (Kd.int .i64))).sz=1 from rfl,Nat.mul_one] at Du
        replace Du:=Option.some.inj (Du.symm.trans ab5)
        rw [Du] at JP
        have xe:=k0 (show Kd.R (Kd.int .i64) 2 _ _ _ _ (ag alY kg) from JP)
        clear Du JP
        clear Qr aaG
        have B0:=k0 Rj
        have U8:=k0 RB
        clear Rj RB
        replace GM:=eq_true GM
        replace GV:=eq_true GV
        go_wp2_with (first|((with_reducible refine fo (f:=151) rfl ?_);refine fq (some 65) rfl rfl Try.func151 (by kernel_rfl) rfl #[.slice Hh (ag alY kg).length Jb] rfl gm ?_;(with_reducible refine (oa.calls _ _ (ag alY kg) t139 _ ?bt ?bu jH.out).mono ?_);(case bt=>exact aC (by repeat (first|(with_reducible exact B0.out)|(with_reducible refine Kd.kM ?_ _)|(with_reducible refine Kd.alZ ?_ _)|(with_reducible refine Kd.j6 ?_)|exact B0.out)));(case bu=>exact U8.out);rintro e By ⟨akC,rfl,aY,hb⟩;refine ⟨_,rfl,?_⟩;replace cP:=k0 (Kd.qw (aS cP.out) (Kd.dV aY) hb);replace lX:=k0 (Kd.qw (aS lX.out) (Kd.dV aY) hb);have rV:=k0 (Kd.d_ (Kd.alF (Kd.alF (Kd.alF aY (Kd.eZ (aR bG.out))) (Kd.eZ (aR gC.out))) (Kd.eZ (aR xe.out))) (aU bl));replace bG:=k0 (Kd.gK (aR bG.out) (Kd.dV aY) hb);replace gC:=k0 (Kd.gK (aR gC.out) (Kd.dV aY) hb);replace xe:=k0 (Kd.gK (aR xe.out) (Kd.dV aY) hb);replace ah:=k0 (alg (g:=ai) (o:=sO af au aa aq 31) bk hb);replace B0:=k0 (Kd.bI (by repeat (first|(with_reducible exact B0.out)|(with_reducible refine Kd.kM ?_ _)|(with_reducible refine Kd.alZ ?_ _)|(with_reducible refine Kd.j6 ?_)|exact B0.out)) hb);replace HB:=k0 (aG bl hb);(try clear hb);(try clear aY);obtain ⟨afI,amq,Zd⟩:=Kd.fh bG.out;subst Zd;have Lx:0≤(kg:Int):=oD;have LP:kg < (aln.length:Int):=oD;obtain ⟨sZ,e142,aj5⟩:=Kd.bS (Kd.bn bG.out).2.2 kg Lx LP;cases e142;replace Lx:=eq_true Lx;replace LP:=eq_true LP;have LG:0≤(jG:Int):=oD;have LX:(jG:Int) < ((t139.length:Int):Int):=oD;obtain ⟨oz,al6,O9,PD,Z1,ahg,Ns⟩:=Kd.kT rV.out (by omega);(first|cases O9|(injection O9 with aW aly c_;(first|subst aW|(injection aW with aW;subst aW));subst c_;clear aly));have US:=k0 PD;have afP:=k0 Ns;clear PD Z1 Ns;obtain ⟨aj9,ah5⟩:=Kd.js 0 rV.out (jG:Int) LG LX;replace LG:=eq_true LG;replace LX:=eq_true LX;have n_:=k0 (Kd.bx (ok':=(fun k_=>some k_ ≠ (.slice (some sZ) aln.length amq:Value).ownBlock∧some k_ ≠ (u12:Value).ownBlock∧some k_ ≠ (.slice Hh (ag alY kg).length Jb:Value).ownBlock)) rV.out (fun k_ hk=>⟨hk.1.1.2,⟨hk.1.2,hk.2⟩⟩));clear rV;have rV:=n_;clear n_;obtain ⟨akb,ake⟩:=Kd.js 0 rV.out (jG:Int) oD oD;have Ia:=Kd.kr rV.out (jG:Int) (rd aln kg))|((with_reducible refine kW (t:=2) (p:=72) rfl ?_);refine alT (t:=2) (p:=72) (v:=?ak9) (w1:=(By.setCell ⟨oz,(jG:Int).toNat,none⟩ (.int .i64 (rd aln kg)))) ?hg ?ho ?hn ?hr ?_;(case ho=>rfl);(case hg=>rfl);(case hn=>rfl);(case hr=>first|(go_simp;done)|(go_simp;rfl));intro Mh hw;have hg:By.grownBy Mh (some oz):=(by rw [hw];exact Ia.2);have dO:Kd.R (Kd.int .i64) 2 Mh w.heap.size (fun k_=>some k_ ≠ (.slice (some sZ) aln.length amq:Value).ownBlock∧some k_ ≠ (u12:Value).ownBlock∧some k_ ≠ (.slice Hh (ag alY kg).length Jb:Value).ownBlock) (.slice (some ⟨oz,0,none⟩) t139.length al6) He:=(by rw [hw,V8.out];exact Ia.1);clear Ia;replace cP:=k0 (Kd.sX (v:=(.slice (some ⟨oz,0,none⟩) t139.length al6)) (v1:=(.slice (some ⟨oz,0,none⟩) t139.length al6)) (ok:=(fun k_=>some k_ ≠ (.slice (some sZ) aln.length amq:Value).ownBlock∧some k_ ≠ (u12:Value).ownBlock∧some k_ ≠ (u14:Value).ownBlock)) (aS cP.out) hg (.inl rfl));replace bG:=k0 (Kd.pS (v:=(.slice (some ⟨oz,0,none⟩) t139.length al6)) (v1:=(.slice (some ⟨oz,0,none⟩) t139.length al6)) (ok:=(fun k_=>some k_ ≠ (u12:Value).ownBlock)) (aR bG.out) hg (.inl rfl));replace gC:=k0 (Kd.pS (v:=(.slice (some ⟨oz,0,none⟩) t139.length al6)) (v1:=(.slice (some ⟨oz,0,none⟩) t139.length al6)) (ok:=(fun k_=>some k_ ≠ (.slice (some sZ) aln.length amq:Value).ownBlock)) (aR gC.out) hg (.inl rfl));replace lX:=k0 (Kd.sX (v:=(.slice (some ⟨oz,0,none⟩) t139.length al6)) (v1:=(.slice (some ⟨oz,0,none⟩) t139.length al6)) (ok:=(fun k_=>some k_ ≠ (.slice (some AH) alY.length qA:Value).ownBlock∧some k_ ≠ (.slice (some sZ) aln.length amq:Value).ownBlock∧some k_ ≠ (u12:Value).ownBlock)) (aS lX.out) hg (.inl rfl));replace ah:=k0 (jv (g:=ai) (o:=sO af au aa aq 31) bk hg (Kd.iG rV.out ah.out (by decide)));replace xe:=k0 (Kd.pS (v:=(.slice (some ⟨oz,0,none⟩) t139.length al6)) (v1:=(.slice (some ⟨oz,0,none⟩) t139.length al6)) (ok:=(fun k_=>some k_ ≠ (.slice (some AH) alY.length qA:Value).ownBlock∧some k_ ≠ (.slice (some sZ) aln.length amq:Value).ownBlock∧some k_ ≠ (u12:Value).ownBlock∧some k_ ≠ (u14:Value).ownBlock)) (by (with_reducible repeat (first|apply Kd.bO|apply Kd.bR|apply Kd.alp));exact Kd.bx xe.out (fun _ hk=>⟨⟨hk.1.2,⟨hk.1.1.1,⟨hk.1.1.2.1,hk.1.1.2.2⟩⟩⟩,hk.2⟩)) hg (.inl rfl));replace rV:=k0 (dO);replace HB:=k0 ((by rw [hw];exact dI (HB.out) US.out:Below w.heap.size w Mh));clear hg hw dO)|((with_reducible refine pI (b:=.append) (xs:=#[.tmp 73,.tmp 75]) rfl ?_);at_builtin;refine Kd.B6 (Kd.slice 2 (Kd.int .i64)) (w0:=w) w.heap.size rfl (.tmp 73) (.tmp 75) 22 28 (.slice none 0 0) 24 rfl Try.underlying22 yb rfl (by decide) (by omega) u14 sN He [.slice (some ⟨oz,0,none⟩) t139.length al6] (fun k_=>some k_ ≠ (.slice (some AH) alY.length qA:Value).ownBlock∧some k_ ≠ (.slice (some sZ) aln.length amq:Value).ownBlock∧some k_ ≠ (u12:Value).ownBlock) (fun k_=>some k_=(.slice (some ⟨oz,0,none⟩) t139.length al6:Value).ownBlock) rfl rfl ?aP (fun k_ b8=>((Kd.bx (ok':=fun k_=>((fun k_=>some k_ ≠ (.slice (some AH) alY.length qA:Value).ownBlock∧some k_ ≠ (.slice (some sZ) aln.length amq:Value).ownBlock∧some k_ ≠ (u12:Value).ownBlock)) k_∧some k_ ≠ (u14:Value).ownBlock) (Kd.pq (Kd.pq (rV.out) (Kd.l7 cP.out) (by decide)) (Kd.l7 lX.out) (by decide)) (fun k_ hk=>⟨⟨hk.1.2,⟨hk.1.1.1,hk.1.1.2.1⟩⟩,hk.2⟩))).1 k_ b8.symm) ?aF ?aO ?aB ?aS ?aL ?_;(case aP=>exact Kd.amh (Kd.bx (Kd.ami rfl (Kd.bx (ok':=fun k_=>((fun k_=>some k_ ≠ (.slice (some AH) alY.length qA:Value).ownBlock∧some k_ ≠ (.slice (some sZ) aln.length amq:Value).ownBlock∧some k_ ≠ (u12:Value).ownBlock)) k_∧some k_ ≠ (u14:Value).ownBlock) (Kd.pq (Kd.pq (rV.out) (Kd.l7 cP.out) (by decide)) (Kd.l7 lX.out) (by decide)) (fun k_ hk=>⟨⟨hk.1.2,⟨hk.1.1.1,hk.1.1.2.1⟩⟩,hk.2⟩))) (fun _ h_=>h_)));(case aB=>exact bl);(case aF=>exact (fun k_ hk=>⟨Kd.fresh' (Kd.E9 (aS cP.out)) k_ hk,Kd.fresh' (Kd.eZ (aR bG.out)) k_ hk,Kd.fresh' (Kd.eZ (aR gC.out)) k_ hk⟩));(case aO=>exact (by (with_reducible repeat (first|apply Kd.alN|apply Kd.ig|apply Kd.fI));exact Kd.iM lX.out (fun k_ hk=>⟨⟨hk.1.1,⟨hk.1.2.1,hk.1.2.2⟩⟩,fun e_=>hk.2 e_⟩)));(case aS=>exact (aU bl));(case aL=>have:=VO.out;omega);intro v145 w50 ho hb hg cz;rw [← V9.out] at ho;have aK:=k0 (Kd.sX (ok:=(fun k_=>some k_ ≠ (.slice (some sZ) aln.length amq:Value).ownBlock∧some k_ ≠ (u12:Value).ownBlock∧some k_ ≠ (.slice (some ⟨oz,0,none⟩) t139.length al6:Value).ownBlock)) (by (with_reducible repeat (first|apply Kd.alN|apply Kd.ig|apply Kd.fI));exact Kd.iM cP.out (fun _ hk=>⟨⟨hk.1.1,⟨hk.1.2.1,hk.2⟩⟩,hk.1.2.2⟩)) hg cz);have alf:=k0 (Kd.IW (aR bG.out) (Kd.l7 (aS lX.out)) (by decide) hg);have alj:=k0 (Kd.IW (aR gC.out) (Kd.l7 (aS lX.out)) (by decide) hg);have bw:=k0 (jv (g:=ai) (o:=sO af au aa aq 31) bk hg (Kd.ana lX.out ah.out (by decide)));have bQ:=k0 (Kd.pS (ok:=(fun k_=>some k_ ≠ (.slice (some AH) alY.length qA:Value).ownBlock∧some k_ ≠ (.slice (some sZ) aln.length amq:Value).ownBlock∧some k_ ≠ (u12:Value).ownBlock∧some k_ ≠ (.slice (some ⟨oz,0,none⟩) t139.length al6:Value).ownBlock)) (by (with_reducible repeat (first|apply Kd.bO|apply Kd.bR|apply Kd.alp));exact Kd.bx xe.out (fun _ hk=>⟨⟨hk.1.1,⟨hk.1.2.1,⟨hk.1.2.2.1,hk.2⟩⟩⟩,hk.1.2.2.2⟩)) hg cz);have bZ:=k0 (hb);have cB:=k0 (ho);clear cP;clear bG;clear gC;clear ah;clear xe;clear HB;clear lX;clear rV;have cP:=aK;have bG:=alf;have gC:=alj;have ah:=bw;have xe:=bQ;have HB:=bZ;have Vp:=cB;clear aK alf alj bw bQ bZ cB;clear ho hb hg cz))
        (try simp only [← lB])
        go_roundg k3
        case measure=>have:=aM.out;have:=bp.out;have:=dn.out;omega
        case rel=>exact ⟨(alY),(aln),(cA),(T6),(wrap64 (kg+1)),rs,H',⟨by have:=aM.out;have:=bp.out;have:=dn.out;omega⟩,⟨by (try simp only [jX]);(try simp only [lB]);(with_reducible repeat (first|apply Kd.alN|apply Kd.ig|apply Kd.fI));exact Kd.iM cP.out (fun _ hk=>⟨hk.1.1,⟨hk.1.2.1,hk.2⟩⟩)⟩,⟨by (try simp only [jX]);(try simp only [lB]);(with_reducible repeat (first|apply Kd.bO|apply Kd.bR|apply Kd.alp));exact Kd.bx bG.out (fun _ hk=>hk.1)⟩,⟨by (try simp only [jX]);(try simp only [lB]);(with_reducible repeat (first|apply Kd.bO|apply Kd.bR|apply Kd.alp));exact Kd.bx gC.out (fun _ hk=>hk.1)⟩,⟨by (try simp only [jX]);(try simp only [lB]);(with_reducible repeat (first|apply Kd.alN|apply Kd.ig|apply Kd.fI));exact Vp.out⟩,⟨by (try simp only [jX]);(try simp only [lB]);exact bk⟩,⟨bl⟩⟩
   rw [if_pos c13] at H
   have kU:=decide_eq_true c13
   clear c13
   replace H:=iS H;obtain ⟨c14,H⟩:=H
   have kC:=decide_eq_true c14
   clear c14
   replace H:=iS H;obtain ⟨c15,H⟩:=H
   have kV:=decide_eq_true c15
   clear c15
   by_cases c16:gz=a2
   case neg =>
    rw [if_neg c16] at H
    have rm:(gz == a2)=false:=beq_eq_false_iff_ne.mpr c16
    have AP:(gz != a2)=true:=bne_iff_ne.mpr c16
    replace H:=Option.bind_eq_some_iff.mp H
    obtain ⟨t112,anq,H⟩:=H
    replace H:(if 0≤a2 then (if a2 < (t112.length:Int) then (if iB.length < 5864062014805 then (if gz < (l1.length:Int) then (if bF.length < 17592186044416 then (cw.l0 k1 l1 a2 (iB ++ [(t112.eraseIdx (a2:Int).toNat)]) (bF ++ [rd l1 gz]) t108 (t108.length:Int) (wrap64 (gz+1)) af aa) else (none)) else (none)) else (none)) else (none)) else (none))=some r:=H
    have wX:=k0 anq
    clear anq
    replace H:=iS H;obtain ⟨c18,H⟩:=H
    have uP:=decide_eq_true c18
    clear c18
    replace H:=iS H;obtain ⟨c19,H⟩:=H
    have mb:=decide_eq_true c19
    clear c19
    obtain ⟨dU,gq⟩:∃ y_:List Int,y_=(t112.eraseIdx (a2:Int).toNat):=⟨_,rfl⟩
    replace H:(if iB.length < 5864062014805 then (if gz < (l1.length:Int) then (if bF.length < 17592186044416 then (cw.l0 k1 l1 a2 (iB ++ [dU]) (bF ++ [rd l1 gz]) t108 (t108.length:Int) (wrap64 (gz+1)) af aa) else (none)) else (none)) else (none))=some r:=by first|(rw [gq];with_reducible exact H)|(have ax:=(Option.bind_some _ _).symm.trans H;rw [gq];with_reducible exact ax)|(have ax:=(Option.bind_some _ _).symm.trans H;with_reducible exact ax)|with_reducible exact H|(rw [gq];exact H)|exact H
    have mK:=k0 gq
    clear gq
    replace H:=iS H;obtain ⟨c20,H⟩:=H
    have VM:=k0 c20
    clear c20
    obtain ⟨Ml,DH⟩:∃ y_:List (List Int),y_=(iB ++ [dU]):=⟨_,rfl⟩
    replace H:(if gz < (l1.length:Int) then (if bF.length < 17592186044416 then (cw.l0 k1 l1 a2 Ml (bF ++ [rd l1 gz]) t108 (t108.length:Int) (wrap64 (gz+1)) af aa) else (none)) else (none))=some r:=by first|(rw [DH];with_reducible exact H)|(have ax:=(Option.bind_some _ _).symm.trans H;rw [DH];with_reducible exact ax)|(have ax:=(Option.bind_some _ _).symm.trans H;with_reducible exact ax)|with_reducible exact H|(rw [DH];exact H)|exact H
    have V3:=k0 DH
    clear DH
    replace H:=iS H;obtain ⟨c21,H⟩:=H
    have uQ:=decide_eq_true c21
    clear c21
    replace H:=iS H;obtain ⟨c22,H⟩:=H
    have VN:=k0 c22
    clear c22
    obtain ⟨TZ,anw⟩:∃ y_:List Int,y_=(bF ++ [rd l1 gz]):=⟨_,rfl⟩
    replace H:(cw.l0 k1 l1 a2 Ml TZ t108 (t108.length:Int) (wrap64 (gz+1)) af aa)=some r:=by first|(rw [anw];with_reducible exact H)|(have ax:=(Option.bind_some _ _).symm.trans H;rw [anw];with_reducible exact ax)|(have ax:=(Option.bind_some _ _).symm.trans H;with_reducible exact ax)|with_reducible exact H|(rw [anw];exact H)|exact H
    have V4:=k0 anw
    clear anw
    have H':=k0 H
    clear H
    have gw:0≤(gz:Int):=oD
    have gy:gz < (t108.length:Int):=oD
    obtain ⟨mP,Ez,Fl,e111,gX,amT,amQ⟩:=cZ (Kd.ck kk.out).2.2 gz gw gy
    cases e111
    obtain ⟨XZ,Kf,J3,CT⟩:=Kd.l6 kk.out [] gz gw (by first|exact gy|exact oD|(have e_:=(Kd.ck kk.out).1;omega))
    obtain ⟨ae',rfl,am3⟩:=J3
    have tY:=CT 0 _ rfl
    rw [Nat.add_zero,show ((Kd.slice 2 (Kd.int .i64))).sz=1 from rfl,Nat.mul_one] at tY
    replace tY:=Option.some.inj (tY.symm.trans gX)
    rw [tY] at am3
    have rU:=k0 (show Kd.R (Kd.int .i64) 2 _ _ _ _ (ag t108 gz) from am3)
    clear tY am3
    clear CT Kf
    have xj:=k0 amQ
    have anM:=k0 amT
    clear amQ amT
    replace gw:=eq_true gw
    replace gy:=eq_true gy
    go_wp2_with (first|((with_reducible refine fo (f:=151) rfl ?_);refine fq (some 33) rfl rfl Try.func151 (by kernel_rfl) rfl #[.slice Ez (ag t108 gz).length Fl] rfl gm ?_;(with_reducible refine (oa.calls _ _ (ag t108 gz) t112 _ ?bt ?bu wX.out).mono ?_);(case bt=>exact aC (by repeat (first|(with_reducible exact xj.out)|(with_reducible refine Kd.kM ?_ _)|(with_reducible refine Kd.alZ ?_ _)|(with_reducible refine Kd.j6 ?_)|exact xj.out)));(case bu=>exact anM.out);rintro e vp ⟨akx,rfl,aY,hb⟩;refine ⟨_,rfl,?_⟩;replace cP:=k0 (Kd.qw (aS cP.out) (Kd.dV aY) hb);replace kk:=k0 (Kd.qw (aS kk.out) (Kd.dV aY) hb);have sS:=k0 (Kd.d_ (Kd.alF (Kd.alF aY (Kd.eZ (aR bG.out))) (Kd.eZ (aR rU.out))) (aU bl));replace bG:=k0 (Kd.gK (aR bG.out) (Kd.dV aY) hb);replace rU:=k0 (Kd.gK (aR rU.out) (Kd.dV aY) hb);replace ah:=k0 (alg (g:=ai) (o:=sO af au aa aq 31) bk hb);replace xj:=k0 (Kd.bI (by repeat (first|(with_reducible exact xj.out)|(with_reducible refine Kd.kM ?_ _)|(with_reducible refine Kd.alZ ?_ _)|(with_reducible refine Kd.j6 ?_)|exact xj.out)) hb);replace HB:=k0 (aG bl hb);(try clear hb);(try clear aY);obtain ⟨afG,ry,Zb⟩:=Kd.fh sS.out;subst Zb;have n_:=k0 (Kd.bx (ok':=(fun k_=>some k_ ≠ (u8:Value).ownBlock∧some k_ ≠ (.slice Ez (ag t108 gz).length Fl:Value).ownBlock)) sS.out (fun k_ hk=>⟨hk.1.2,hk.2⟩));clear sS;have sS:=n_;clear n_)|(go_at_call 222;have Q9:0≤(a2:Int):=oD;have Rk:(a2:Int) < (t112.length:Int):=oD;obtain ⟨rA,cap_,Zx,_⟩:=Kd.kT sS.out (by omega);injection Zx with aW aly c_;subst aW;clear aly c_;refine (Uz.calls _ rA t112.length ry t112 a2 w.heap.size w _ bl (aU bl) (aR sS.out) Q9 Rk).mono ?_;rintro e TM ⟨rfl,ho,hb,hg⟩;clear Q9 Rk;rw [← mK.out] at ho;have RH:t112.length - 1=dU.length:=(by have:=(Kd.bn ho).1;omega);rw [RH] at ho ⊢;clear RH;replace cP:=k0 (Kd.sX (v:=(.slice (some ⟨rA,0,none⟩) t112.length ry)) (v1:=.slice (some ⟨rA,0,none⟩) dU.length ry) (ok:=(fun k_=>some k_ ≠ (u8:Value).ownBlock∧some k_ ≠ (.slice (some mP) t108.length gT:Value).ownBlock)) (aS cP.out) hg (.inl rfl));replace bG:=k0 (Kd.pS (v:=(.slice (some ⟨rA,0,none⟩) t112.length ry)) (v1:=.slice (some ⟨rA,0,none⟩) dU.length ry) (ok:=(fun _=>True)) (aR bG.out) hg (.inl rfl));replace kk:=k0 (Kd.sX (v:=(.slice (some ⟨rA,0,none⟩) t112.length ry)) (v1:=.slice (some ⟨rA,0,none⟩) dU.length ry) (ok:=(fun k_=>some k_ ≠ (u7:Value).ownBlock∧some k_ ≠ (u8:Value).ownBlock)) (aS kk.out) hg (.inl rfl));replace ah:=k0 (jv (g:=ai) (o:=sO af au aa aq 31) bk hg (Kd.iG sS.out ah.out (by decide)));replace rU:=k0 (Kd.pS (v:=(.slice (some ⟨rA,0,none⟩) t112.length ry)) (v1:=.slice (some ⟨rA,0,none⟩) dU.length ry) (ok:=(fun k_=>some k_ ≠ (u7:Value).ownBlock∧some k_ ≠ (u8:Value).ownBlock∧some k_ ≠ (.slice (some mP) t108.length gT:Value).ownBlock)) (by (with_reducible repeat (first|apply Kd.bO|apply Kd.bR|apply Kd.alp));exact Kd.bx rU.out (fun _ hk=>⟨⟨hk.1.1.1,⟨hk.1.1.2,hk.1.2⟩⟩,hk.2⟩)) hg (.inl rfl));replace sS:=k0 (ho);replace HB:=k0 (hb);clear ho hb hg)|((with_reducible refine pI (b:=.append) (xs:=#[.tmp 31,.tmp 38]) rfl ?_);at_builtin;refine Kd.B6 (Kd.slice 2 (Kd.int .i64)) (w0:=w) w.heap.size rfl (.tmp 31) (.tmp 38) 22 28 (.slice none 0 0) 24 rfl Try.underlying22 yb rfl (by decide) (by omega) u7 iB dU [.slice (some ⟨rA,0,none⟩) dU.length ry] (fun k_=>some k_ ≠ (u8:Value).ownBlock∧some k_ ≠ (.slice (some mP) t108.length gT:Value).ownBlock) (fun k_=>some k_=(.slice (some ⟨rA,0,none⟩) dU.length ry:Value).ownBlock) rfl rfl ?aP (fun k_ b8=>((Kd.bx (ok':=fun k_=>((fun k_=>some k_ ≠ (u8:Value).ownBlock∧some k_ ≠ (.slice (some mP) t108.length gT:Value).ownBlock)) k_∧some k_ ≠ (u7:Value).ownBlock) (Kd.pq (Kd.pq (sS.out) (Kd.l7 kk.out) (by decide)) (Kd.l7 cP.out) (by decide)) (fun k_ hk=>⟨⟨hk.1.1.1,hk.1.2⟩,hk.2⟩))).1 k_ b8.symm) ?aF ?aO ?aB ?aS ?aL ?_;(case aP=>exact Kd.amh (Kd.bx (Kd.ami rfl (Kd.bx (ok':=fun k_=>((fun k_=>some k_ ≠ (u8:Value).ownBlock∧some k_ ≠ (.slice (some mP) t108.length gT:Value).ownBlock)) k_∧some k_ ≠ (u7:Value).ownBlock) (Kd.pq (Kd.pq (sS.out) (Kd.l7 kk.out) (by decide)) (Kd.l7 cP.out) (by decide)) (fun k_ hk=>⟨⟨hk.1.1.1,hk.1.2⟩,hk.2⟩))) (fun _ h_=>h_)));(case aB=>exact bl);(case aF=>exact (fun k_ hk=>⟨Kd.fresh' (Kd.eZ (aR bG.out)) k_ hk,Kd.fresh' (Kd.E9 (aS kk.out)) k_ hk⟩));(case aO=>exact (by (with_reducible repeat (first|apply Kd.alN|apply Kd.ig|apply Kd.fI));exact Kd.iM cP.out (fun k_ hk=>⟨⟨hk.1.1,hk.1.2⟩,fun e_=>hk.2 e_⟩)));(case aS=>exact (aU bl));(case aL=>have:=VM.out;omega);intro TD En ho hb hg cz;rw [← V3.out] at ho;have aK:=k0 (Kd.IW (aR bG.out) (Kd.l7 (aS cP.out)) (by decide) hg);have alf:=k0 (Kd.sX (ok:=(fun k_=>some k_ ≠ (u8:Value).ownBlock∧some k_ ≠ (.slice (some ⟨rA,0,none⟩) dU.length ry:Value).ownBlock)) (by (with_reducible repeat (first|apply Kd.alN|apply Kd.ig|apply Kd.fI));exact Kd.iM kk.out (fun _ hk=>⟨⟨hk.1.2,hk.2⟩,hk.1.1⟩)) hg cz);have alj:=k0 (jv (g:=ai) (o:=sO af au aa aq 31) bk hg (Kd.ana cP.out ah.out (by decide)));have bw:=k0 (Kd.pS (ok:=(fun k_=>some k_ ≠ (u8:Value).ownBlock∧some k_ ≠ (.slice (some mP) t108.length gT:Value).ownBlock∧some k_ ≠ (.slice (some ⟨rA,0,none⟩) dU.length ry:Value).ownBlock)) (by (with_reducible repeat (first|apply Kd.bO|apply Kd.bR|apply Kd.alp));exact Kd.bx rU.out (fun _ hk=>⟨⟨hk.1.2.1,⟨hk.1.2.2,hk.2⟩⟩,hk.1.1⟩)) hg cz);have bQ:=k0 (hb);have bZ:=k0 (ho);clear bG;clear kk;clear ah;clear rU;clear HB;clear cP;clear sS;have bG:=aK;have kk:=alf;have ah:=alj;have rU:=bw;have HB:=bQ;have ET:=bZ;clear aK alf alj bw bQ bZ;clear ho hb hg cz;have wO:0≤(gz:Int):=oD;have wR:gz < (l1.length:Int):=oD;obtain ⟨I5,e121,am4⟩:=Kd.bS eP.out gz wO wR;cases e121;replace am4:=hbc HB am4;replace wO:=eq_true wO;replace wR:=eq_true wR)|((with_reducible refine pI (b:=.append) (xs:=#[.tmp 40,.tmp 45]) rfl ?_);at_builtin;refine Kd.uL (Kd.int .i64) (w0:=w) w.heap.size rfl (.tmp 40) (.tmp 45) 28 2 (.int .i64 0) 8 rfl Try.underlying28 lF rfl (by decide) (by omega) u8 bF (rd l1 gz) [.int .i64 (rd l1 gz)] (fun _=>True) (fun _=>False) rfl rfl ?aP (fun _ hk=>hk.elim) ?aF ?aO ?aB ?aS ?aL ?_;(case aP=>exact rfl);(case aB=>exact bl);(case aF=>exact (fun _ _=>trivial));(case aO=>exact (by (with_reducible repeat (first|apply Kd.bO|apply Kd.bR|apply Kd.alp));exact Kd.bx bG.out (fun _ hk=>trivial)));(case aS=>exact (aU bl));(case aL=>have:=VN.out;omega);intro akz oP ho hb hg cz;rw [← V4.out] at ho;have aK:=k0 (Kd.sX (ok:=(fun k_=>some k_ ≠ (TD:Value).ownBlock)) (by (with_reducible repeat (first|apply Kd.alN|apply Kd.ig|apply Kd.fI));exact Kd.iM kk.out (fun _ hk=>⟨hk.2,hk.1.1⟩)) hg cz);have alf:=k0 (jv (g:=ai) (o:=sO af au aa aq 31) bk hg (Kd.iG bG.out ah.out (by decide)));have alj:=k0 (Kd.pS (ok:=(fun k_=>some k_ ≠ (.slice (some mP) t108.length gT:Value).ownBlock∧some k_ ≠ (TD:Value).ownBlock)) (by (with_reducible repeat (first|apply Kd.bO|apply Kd.bR|apply Kd.alp));exact Kd.bx rU.out (fun _ hk=>⟨⟨hk.1.2.1,hk.2⟩,hk.1.1⟩)) hg cz);have bw:=k0 (Kd.sX (ok:=(fun k_=>some k_ ≠ (.slice (some mP) t108.length gT:Value).ownBlock)) (by (with_reducible repeat (first|apply Kd.alN|apply Kd.ig|apply Kd.fI));exact Kd.iM ET.out (fun _ hk=>⟨hk.2,hk.1⟩)) hg cz);have bQ:=k0 (hb);have bZ:=k0 (ho);clear kk;clear ah;clear rU;clear ET;clear HB;clear bG;have kk:=aK;have ah:=alf;have rU:=alj;have ET:=bw;have HB:=bQ;have Vl:=bZ;clear aK alf alj bw bQ bZ;clear ho hb hg cz))
    go_roundg k1
    case measure=>have:=aM.out;omega
    case rel=>exact ⟨(Ml),(TZ),(wrap64 (gz+1)),rs,H',⟨by have:=aM.out;omega⟩,⟨aS (Kd.iM ET.out (fun _ hk=>⟨hk.2,hk.1⟩))⟩,⟨aR (Vl.out)⟩,⟨aS (kk.out)⟩,⟨bk⟩,⟨bl⟩⟩
   rw [if_pos c16] at H
   have rm:(gz == a2)=true:=beq_iff_eq.mpr c16
   have AP:(gz != a2)=false:=bne_eq_false_iff_eq.mpr c16
   clear c16
   have H':=k0 H
   clear H
   have gw:0≤(gz:Int):=oD
   have gy:gz < (t108.length:Int):=oD
   obtain ⟨mP,Ez,Fl,e111,gX,amT,amQ⟩:=cZ (Kd.ck kk.out).2.2 gz gw gy
   cases e111
   obtain ⟨XZ,Kf,J3,CT⟩:=Kd.l6 kk.out [] gz gw (by first|exact gy|exact oD|(have e_:=(Kd.ck kk.out).1;omega))
   obtain ⟨ae',rfl,am3⟩:=J3
   have tY:=CT 0 _ rfl
   rw [Nat.add_zero,show ((Kd.slice 2 (Kd.int .i64))).sz=1 from rfl,Nat.mul_one] at tY
   replace tY:=Option.some.inj (tY.symm.trans gX)
   rw [tY] at am3
   have rU:=k0 (show Kd.R (Kd.int .i64) 2 _ _ _ _ (ag t108 gz) from am3)
   clear tY am3
   clear CT Kf
   have xj:=k0 amQ
   have anM:=k0 amT
   clear amQ amT
   replace gw:=eq_true gw
   replace gy:=eq_true gy
   go_wp2
   go_roundg k1
   case measure=>have:=aM.out;omega
   case rel=>exact ⟨(iB),(bF),(wrap64 (gz+1)),rs,H',⟨by have:=aM.out;omega⟩,⟨aS (cP.out)⟩,⟨aR (bG.out)⟩,⟨aS (kk.out)⟩,⟨bk⟩,⟨bl⟩⟩
/-! ### F226: function 226 -/
theorem mul_one (n:Nat) (hn:n < 4294967296) (w:World):Calls Try.prog 241 #[.int .u64 1,.int .u64 n] w fun e w'=>e=.returned (.tuple #[.int .u64 0,.int .u64 n])∧w'=w:=by
 have m1:bits .and .u64 (1:Int) 4294967295=1:=by rfl
 have m2:=Mul64.maskN n (by omega)
 rw [Nat.mod_eq_of_lt hn] at m2
 have m3:(1:Int) / 4294967296=0:=by decide
 have m4:(n:Int) / 4294967296=0:=by omega
 have m5:=Mul64.wrapN n (by omega)
 have m6:bits .and .u64 (0:Int) 4294967295=0:=by rfl
 have m7:IntKind.u64.wrap 0=0:=by rfl
 go_enter Try.func241,Try.ntmps241
 go_wp2
 go_ret2
 exact ⟨rfl,rfl⟩
def yq (x:Int) (n m g:Nat) (wr:World):Prop:=∃ cur:Array Value,wr.heap[g]?=some (.cells cur 2 (0,0))∧cur.size=n∧cur.toList.take m=List.replicate m (.int .i64 x)
theorem GX {x:Int} {n m g:Nat} {wr:World} (h:yq x n m g wr):yq x n m g wr.drew:=h
theorem D_ {x:Int} {n m g:Nat} {wr:World} (h:yq x n m g wr) (j:Nat) (hj:j < n):(wr.cell? ⟨g,j,none⟩).isSome=true∧wr.frozen? ⟨g,j,none⟩=false∧(j < m→wr.cell? ⟨g,j,none⟩=some (.int .i64 x)):=by
 obtain ⟨cur,h1,h2,h3⟩:=h
 refine ⟨?_,ale h1 j,fun hm=>?_⟩
 ·rw [av h1 j,Array.getElem?_eq_getElem (by omega)];rfl
 ·rw [av h1 j]
  have h4:(cur.toList.take m)[j]?=some (.int .i64 x):=by rw [h3,List.getElem?_replicate,if_pos hm]
  rw [List.getElem?_take,if_pos hm] at h4
  simpa using h4
theorem Tn {x:Int} {n m g k:Nat} {wr:World} (h:yq x n m g wr) (hk:m+k≤n):yq x n (m+k) g (wr.setCells g m (List.replicate k (.int .i64 x))):=by
 obtain ⟨cur,h1,h2,h3⟩:=h
 obtain ⟨cur',h4,h5,h6⟩:=vk (List.replicate k (.int .i64 x)) m wr cur h1 (by rw [List.length_replicate];omega)
 refine ⟨cur',h4,by omega,?_⟩
 rw [h6,h3,List.length_replicate,List.append_assoc,List.take_append,List.length_replicate,List.take_of_length_le (by rw [List.length_replicate];omega),List.take_append,List.length_replicate,List.take_of_length_le (by rw [List.length_replicate];omega)]
 rw [show m+k - m - k=0 by omega,List.take_zero,List.append_nil,List.replicate_append_replicate]
theorem below_setCells {g : Nat} {w0 : World} (hg : w0.heap.size ≤ g) : ∀ (vs : List Value) (o : Nat) (w : World), Below w0.heap.size w0 w → Below w0.heap.size w0 (w.setCells g o vs)
 | [],_,_,h=>h
 | v :: r,o,w,h=>below_setCells hg r (o+1) _ (dI h hg)
set_option maxHeartbeats 8000000 in
set_option maxRecDepth 100000 in
theorem aei (x : Int) (n : Nat) (h1 : 1 ≤ n) (hn : n ≤ 1048576) (A : Option Addr) (c : Nat) (w : World) (hr : Kd.C (Kd.int .i64) w A 1 [x]) :
  Calls Try.prog 226 #[.slice A 1 c,.int .i64 n] w fun e w'=>∃ v,e=.returned v∧Kd.R (Kd.int .i64) 2 w' w.heap.size (fun _=>True) v (List.replicate n x)∧Below w.heap.size w w':=by
 obtain ⟨ad,e,hcell⟩:=Kd.bS hr 0 (by omega) (by simp)
 cases e
 have hmul:=fun w=>mul_one n (by omega) w
 have HM:=k0 hmul
 clear hmul
 have hmk:=aob (P:=Try.prog) 28 2 .i64 8 Try.underlying28 lF (by decide) n (by omega)
 have hneg:decide ((n:Int) < 0)=false:=decide_eq_false (by omega)
 have abG:decide ((n:Int) > 9223372036854775807)=false:=decide_eq_false (by omega)
 have w1:=Mul64.wrapN n (by omega)
 obtain ⟨W0,CN⟩:∃ W0,W0=w.alloc (.cells (madeCells #[.int .i64 0] n) 2):=⟨_,rfl⟩
 have Qa:W0.heap[w.heap.size]?=some (.cells (madeCells #[.int .i64 0] n) 2 (0,0)):=by rw [CN];exact heap_alloc_new w _
 have cI:yq x n 0 w.heap.size W0:=⟨_,Qa,size_madeCells _ _,by simp⟩
 have JW:Below w.heap.size w W0:=by rw [CN];exact bL (Below.refl _ _) _
 have hsz:(Try.prog.info? 2).map (·.size)=some 1:=by
  obtain ⟨i0,sA,_,hs,_⟩:=info_parts lF
  rw [sA];simp [hs]
 have hsrc:W0.cell? ad=some (.int .i64 x):=by
  have h0:ad.add (0:Int).toNat=ad:=by cases ad;simp [Addr.add]
  have h:=(JW.cell (World.block_lt_of_cell? w _ hcell)).trans hcell
  rw [h0] at h
  exact h
 have Kh:∀ ty,(Builtin.copy_ #[28,28] ty #[.slice (some ⟨w.heap.size,0,none⟩) n n,.slice (some ad) 1 c]).run Try.prog W0=.ok (goInt 1) (W0.setCells w.heap.size 0 [.int .i64 x]):=fun ty=>by
  have h := run_copy_cells (P := Try.prog) W0 28 28 ty 2 w.heap.size 0 n n ad 1 c [.int .i64 x] Try.underlying28 hsz (by show 1 = Nat.min 1 n; simp only [Nat.min_def]; split <;> omega)
   (fun j v hj=>by
    obtain rfl:j=0:=by have:=(List.getElem?_eq_some_iff.1 hj).1;simpa using this
    simp at hj
    rw [← hj]
    simpa [Addr.add] using hsrc) (fun j hj=>by rw [Nat.zero_add];exact (D_ cI j (by simp at hj;omega)).1) (fun j hj=>by rw [Nat.zero_add];exact (D_ cI j (by simp at hj;omega)).2.1) (fun v hv=>by simp at hv;rw [hv];rfl)
  exact h
 have eP:=k0 (Tn (k:=1) cI (by omega))
 have kO:=k0 (below_setCells (g:=w.heap.size) (Nat.le_refl _) [.int .i64 x] 0 W0 JW)
 rw [CN] at Kh
 rw [CN] at eP kO
 clear CN Qa cI JW hsrc W0
 have NP:=k0 hsz
 have kP:=k0 Kh
 clear hsz Kh
 go_enter Try.func226,Try.ntmps226
 go_wp2_with (first|(go_at_call 241;refine (HM.out _).mono ?_;rintro e w_ ⟨rfl,h_⟩;rw [h_];clear h_ w_)|(at_builtin;refine wpList_copy_runI _ rfl _ _ 28 28 rfl _ _ rfl rfl (kP.out _) ?_)|(simp only [kP.out];done)|(rw [kP.out]))
 generalize oA:(w.alloc (Obj.cells (madeCells #[Value.int IntKind.i64 0] n) 2)).setCells w.heap.size 0 [Value.int IntKind.i64 x]=W1
 have FH:yq x n 1 w.heap.size W1:=by rw [← oA];exact eP.out
 have amD:Below w.heap.size w W1:=by rw [← oA];exact kO.out
 clear eP kO kP oA HM hmk
 have eP:=k0 FH
 have kO:=k0 amD
 clear FH amD
 go_loopw [8] (fun v wr=>∃ m:Nat,1≤m∧m≤n∧v=.int .i64 m∧ak (yq x n m w.heap.size wr)∧ak (Below w.heap.size w wr)) (fun v _=>n - (intOf v).toNat)
 case atStart=>exact ⟨1,Nat.le_refl _,h1,rfl,eP,kO⟩
 case round =>
  obtain ⟨m,zA,hmn,rfl,HR,HB⟩:=hrel
  by_cases hlt:m < n
  case neg =>
   have hnm:m=n:=by omega
   subst hnm
   have hb:decide ((m:Int) < (m:Int))=false:=decide_eq_false (by omega)
   go_wp2
   go_ret
   obtain ⟨cur,e1,e2,e3⟩:=HR.out
   refine ⟨_,rfl,Kd.Ay ⟨?_,.inr ⟨w.heap.size,m,cur,?_,Nat.le_refl _,e1,?_,?_,?_,?_⟩⟩ (fun _ _=>trivial),HB.out⟩
   ·simp [fj]
   ·simp
   ·rw [List.length_replicate];exact Nat.le_refl _
   ·unfold maxLen;omega
   ·omega
   ·rw [List.length_replicate,Nat.mul_one,e3];simp [fj]
  have hb:decide ((m:Int) < (n:Int))=true:=decide_eq_true (by omega)
  have Bj:(0:Int)≤(m:Int):=by omega
  have zD:(m:Int)≤(n:Int):=by omega
  have hq3:¬ (n=m):=by omega
  have hq4:m≤n:=hmn
  obtain ⟨k,hk⟩:∃ k,k=Nat.min m (n - m):=⟨_,rfl⟩
  have zy:1≤k∧m+k≤n:=by rw [hk];simp only [Nat.min_def];split<;>omega
  have hkm:k≤m:=by rw [hk];simp only [Nat.min_def];split<;>omega
  have Qy:∀ ty,(Builtin.copy_ #[28,28] ty #[.slice (some ⟨w.heap.size,m,none⟩) (n - m) (n - m),.slice (some ⟨w.heap.size,0,none⟩) m n]).run Try.prog wr.drew=.ok (goInt k) (wr.drew.setCells w.heap.size m (List.replicate k (.int .i64 x))):=fun ty=>by
   have h := run_copy_cells (P := Try.prog) wr.drew 28 28 ty 2 w.heap.size m (n - m) (n - m) ⟨w.heap.size, 0, none⟩ m n (List.replicate k (.int .i64 x)) Try.underlying28 NP.out (by rw [List.length_replicate]; exact hk)
    (fun j v hj=>by
     have hj2:j < k:=by have:=(List.getElem?_eq_some_iff.1 hj).1;simpa using this
     rw [List.getElem?_replicate,if_pos hj2] at hj
     injection hj with hj
     rw [← hj]
     have h5:=(D_ (GX HR.out) j (by omega)).2.2 (by omega)
     rw [Addr.add_lit,Nat.zero_add]
     exact h5)
    (fun j hj=>(D_ (GX HR.out) (m+j) (by rw [List.length_replicate] at hj;omega)).1)
    (fun j hj=>(D_ (GX HR.out) (m+j) (by rw [List.length_replicate] at hj;omega)).2.1)
    (fun v hv=>by rw [List.eq_of_mem_replicate hv];rfl)
   rwa [List.length_replicate] at h
  have HC:=k0 Qy
  have yF:=k0 (Tn (k:=k) (GX HR.out) zy.2)
  have fl:=k0 (below_setCells (g:=w.heap.size) (Nat.le_refl _) (List.replicate k (.int .i64 x)) m wr.drew (xw HB.out))
  have hw1:IntKind.i64.wrap ((m:Int)+(k:Int))=((m+k:Nat):Int):=by rw [IntKind.wrap_i64];omega
  clear Qy hk hlt HR HB eP kO NP
  have mixed:Try.prog.follows Departure.mixedOrders=true:=by kernel_rfl
  go_wp2
  go_region_law_o (refine step_copy_runI rfl _ _ 28 28 rfl _ _ (by simp [Act.eval,Act.put]) (by simp [Act.eval,Act.put]) (HC.out _) ?_)
  go_wp2
  go_simp
  go_roundw
  case rel=>exact ⟨m+k,by omega,zy.2,by omega,yF⟩
  case measure=>simp [intOf];omega
def amN.f (l0:List Int) (a1:Int):Option (List Int):=if l0.length=1∧1≤a1∧a1≤1048576 then some (List.replicate a1.toNat (rd l0 0)) else none
set_option maxHeartbeats 8000000 in
set_option maxRecDepth 100000 in
theorem amN.calls (A0 : Option Addr) (c0 : Nat) (l0 : List Int) (a1 : Int) (r : List Int) (w : World) (cI : Kd.C (Kd.int .i64) w A0 l0.length l0) (hc0 : l0.length ≤ c0) (h : amN.f l0 a1 = some r) :
  Calls Try.prog 226 #[.slice A0 l0.length c0,.int .i64 a1] w fun e w'=>∃ cF:Value,e=.returned (cF)∧Kd.R (Kd.int .i64) 2 w' w.heap.size (fun _=>True) cF r∧Below w.heap.size w w':=by
 unfold amN.f at h
 by_cases c2:l0.length=1∧1≤a1∧a1≤1048576
 case neg =>
  rw [if_neg c2] at h
  exact absurd h (by simp)
 rw [if_pos c2] at h
 obtain rfl:=Option.some.inj h
 obtain ⟨x,rfl⟩:=List.length_eq_one_iff.1 c2.1
 obtain ⟨n,rfl⟩:∃ n:Nat,a1=n:=⟨a1.toNat,by omega⟩
 exact aei x n (by omega) (by omega) A0 c0 w cI
end Go.Proofs.Ytoebojnhchocaaa.B
/- Set with little white space, by a program. -/
