/- The functions that one law reaches, each as a Lean function, and that Go's call comes to what it says. Condition of each: that the Lean function answers (is not none). -/
import Derived.Test.YtapnggjaeehpdaaAx0
import Derived.Test.YtapnggjaeehpdaaAx1
import Derived.Test.YtapnggjaeehpdaaAx3
import Derived.Test.YtapnggjaeehpdaaAx5
import Derived.Test.YtapnggjaeehpdaaAx6
import Derived.Test.YtapnggjaeehpdaaAx8
import Derived.Test.YtapnggjaeehpdaaAx10
import Derived.Test.YtapnggjaeehpdaaAx12
namespace Go.Proofs.Ytapnggjaeehpdaa.A
open Go.RowKit Go.Proofs.bB.dI Go.Proofs.bB.ark Go.Proofs.bB.jd
attribute [local go_sem] max2_int min2_int max_two min_two max_three min_three max_four min_four   -- for this text's walks alone
set_option linter.unusedVariables false
set_option linter.unusedSimpArgs false
set_option maxHeartbeats 8000000
set_option maxRecDepth 100000
/-! ### F72: function 72 -/
mutual
def jr.l0 : Nat → Int → Int → Int → Int → List (List Int) → Option (Int)
 | 0,_,_,_,_,_=>none
 | k+1,x1,x5,x6,dx,cF=>if x6 < (cF.length:Int) then (jr.l1 k x1 x5 x6 0 dx cF) else (some x5)
def jr.l1 : Nat → Int → Int → Int → Int → Int → List (List Int) → Option (Int)
 | 0,_,_,_,_,_,_=>none
 | k+1,x1,x5,x6,x7,dx,cF=>if x7 < 2 then (if 0≤x6 then (if x6 < (cF.length:Int) then (if 0≤x7 then (if x7 < ((ah cF x6).length:Int) then (if (rd (ah cF x6) x7)=x1 then (jr.l1 k x1 (wrap64 (x5+1)) x6 (wrap64 (x7+1)) dx cF) else (jr.l1 k x1 x5 x6 (wrap64 (x7+1)) dx cF)) else (none)) else (none)) else (none)) else (none)) else (jr.l0 k x1 x5 (wrap64 (x6+1)) dx cF)
end
def jr.f (k:Nat) (ag:Int) (af:List (List Int)) (a1:Int):Option (Int):=jr.l0 k a1 0 0 ag af
theorem jr.calls (k : Nat) (ag : Int) (az : Option Addr) (ay : Nat) (af : List (List Int)) (a1 : Int) (r : Int) (w : World) (aqO : Kd.C (Kd.slice 2 (Kd.int .i64)) w az af.length af) (bG : af.length ≤ ay) (h : jr.f k ag af a1 = some r) :
  Calls Try.prog 72 #[.agg #[.int .i64 ag,.slice az af.length ay],.int .i64 a1] w fun e w'=>e=.returned (.int .i64 r)∧Below w.heap.size w w':=by
 have eE:=Try.underlying26
 have aW:=k0 aqO
 have bh:=k0 bG
 clear aqO bG
 have HB:=k0 (Below.refl w.heap.size w)
 unfold jr.f at h
 have H:=h
 clear h
 have H':=k0 H
 clear H
 go_enter Try.func72,Try.ntmps72
 go_wp2_with (first|(refine aqI (N:=2) rfl ?_;refine cz 2 #[.int .i64 ag,.slice az af.length ay] 26 bl ?_;intro aA w3 aa aqF HB;have aqR:=aqF))
 go_loopg [5,6] k (fun kq v5 v6 w'=>∃ (bK:Int) (fD:Int),v5=.int .i64 bK∧v6=.int .i64 fD∧ai (jr.l0 kq a1 bK fD ag af=some r)∧ai (kq≤k)∧ai (w'.heap[aA]?=some (sO ag az af ay 26))∧ai (Below w.heap.size w w'))
 case atStart=>exact ⟨(0),(0),rs,rs,H',⟨Nat.le_refl _⟩,⟨bk⟩,⟨bl⟩⟩
 case round =>
  clear H'
  obtain ⟨bK,fD,rfl,rfl,HA,aI,aa,HB⟩:=hrel
  cases gk with
  | zero=>exact absurd HA.z (by simp [jr.l0])
  | succ k1 =>
   have H:=HA.z
   clear HA
   simp only [jr.l0] at H
   replace H:=iC H;obtain ⟨ej,H⟩|⟨ej,H⟩:=H
   case inl =>
    obtain rfl:=Option.some.inj H
    obtain ⟨_,_,_,_⟩:=aqA aa
    go_wp2
    go_ret
    exact ⟨eR,bl⟩
   have H':=k0 H
   clear H
   obtain ⟨_,_,_,_⟩:=aqA aa
   go_wp2
   go_loopg [5,7] k1 (fun kq v5 v7 w'=>∃ (sK:Int) (dQ:Int),v5=.int .i64 sK∧v7=.int .i64 dQ∧ai (jr.l1 kq a1 sK fD dQ ag af=some r)∧ai (kq≤k1)∧ai (w'.heap[aA]?=some (sO ag az af ay 26))∧ai (Below w.heap.size w w'))
   case atStart=>exact ⟨(bK),(0),rs,rs,H',⟨Nat.le_refl _⟩,⟨bk⟩,⟨bl⟩⟩
   case round =>
    clear H'
    obtain ⟨sK,dQ,rfl,rfl,HA,aqL,aa,HB⟩:=hrel
    cases gk with
    | zero=>exact absurd HA.z (by simp [jr.l1])
    | succ k2 =>
     have H:=HA.z
     clear HA
     simp only [jr.l1] at H
     replace H:=iC H;obtain ⟨fN,H⟩|⟨fN,H⟩:=H
     case inl =>
      have H':=k0 H
      clear H
      go_wp2
      go_roundg k2
      case measure=>have:=aI.z;have:=aqL.z;omega
      case rel=>exact ⟨(sK),(wrap64 (fD+1)),rs,rs,H',⟨by have:=aI.z;have:=aqL.z;omega⟩,⟨bk⟩,⟨bl⟩⟩
     replace H:=iS H;obtain ⟨c7,H⟩:=H
     have l8:=decide_eq_true c7
     clear c7
     replace H:=iS H;obtain ⟨c8,H⟩:=H
     have r7:=decide_eq_true c8
     clear c8
     replace H:=iS H;obtain ⟨c9,H⟩:=H
     have td:=decide_eq_true c9
     clear c9
     replace H:=iS H;obtain ⟨c10,H⟩:=H
     have vN:=decide_eq_true c10
     clear c10
     replace H:=iE H;obtain ⟨c11,jy,vO,H⟩|⟨jy,vO,H⟩:=H
     case inl =>
      have H':=k0 H
      clear H
      obtain ⟨_,_,_,_⟩:=aqA aa
      obtain ⟨cT,cU⟩:=iN fD (af.length:Int)
      obtain ⟨nZ,asa,s9,e102,fB,aq8,gj⟩:=cD aW.z fD cT cU
      cases e102
      replace fB:=hbc HB fB
      have gb:=k0 gj
      have nU:=k0 aq8
      clear gj aq8
      replace cT:=eT cT
      replace cU:=eT cU
      obtain ⟨di,dn⟩:=iN dQ ((ah af fD).length:Int)
      obtain ⟨jK,e103,dH⟩:=Kd.bM gb.z dQ di dn
      cases e103
      replace dH:=hbc HB dH
      replace di:=eT di
      replace dn:=eT dn
      go_wp2
      go_roundg k2
      case measure=>have:=aI.z;have:=aqL.z;omega
      case rel=>exact ⟨(sK),(wrap64 (dQ+1)),rs,rs,H',⟨by have:=aI.z;have:=aqL.z;omega⟩,⟨bk⟩,⟨bl⟩⟩
     have H':=k0 H
     clear H
     obtain ⟨_,_,_,_⟩:=aqA aa
     obtain ⟨cT,cU⟩:=iN fD (af.length:Int)
     obtain ⟨nZ,asa,s9,e102,fB,aq8,gj⟩:=cD aW.z fD cT cU
     cases e102
     replace fB:=hbc HB fB
     have gb:=k0 gj
     have nU:=k0 aq8
     clear gj aq8
     replace cT:=eT cT
     replace cU:=eT cU
     obtain ⟨di,dn⟩:=iN dQ ((ah af fD).length:Int)
     obtain ⟨jK,e103,dH⟩:=Kd.bM gb.z dQ di dn
     cases e103
     replace dH:=hbc HB dH
     replace di:=eT di
     replace dn:=eT dn
     go_wp2
     go_roundg k2
     case measure=>have:=aI.z;have:=aqL.z;omega
     case rel=>exact ⟨(wrap64 (sK+1)),(wrap64 (dQ+1)),rs,rs,H',⟨by have:=aI.z;have:=aqL.z;omega⟩,⟨bk⟩,⟨bl⟩⟩
/-! ### F20: function 20 -/
def pR.l0 : Nat → Int → Int → Int → List (List Int) → Option (Int × Int)
 | 0,_,_,_,_=>none
 | k+1,x4,x5,dx,cF=>if x5 < dx then ((jr.f k dx cF x5).bind fun t103=>(pR.l0 k (wrap64 (x4 * (wrap64 (t103 - 1)))) (wrap64 (x5+1)) dx cF)) else (some (x4,0))
def pR.f (k:Nat) (ag:Int) (af:List (List Int)):Option (Int × Int):=(dB.f k ag af).bind fun t102=>(if t102=true then (pR.l0 k 1 0 ag af) else (some (0,1)))
theorem pR.calls (k : Nat) (ag : Int) (az : Option Addr) (ay : Nat) (af : List (List Int)) (r1 : Int) (r2 : Int) (w : World) (aqO : Kd.C (Kd.slice 2 (Kd.int .i64)) w az af.length af) (bG : af.length ≤ ay) (h : pR.f k ag af = some (r1, r2)) :
  Calls Try.prog 20 #[.agg #[.int .i64 ag,.slice az af.length ay]] w fun e w'=>e=.returned (.tuple #[.int .i64 r1,.int .i64 r2])∧Below w.heap.size w w':=by
 have eE:=Try.underlying26
 have aW:=k0 aqO
 have bh:=k0 bG
 clear aqO bG
 have HB:=k0 (Below.refl w.heap.size w)
 unfold pR.f at h
 have H:=h
 clear h
 replace H:=bS H;obtain ⟨t102,A2,H⟩:=H
 cases t102
 case false =>
  replace H:=iF H
  simp only [Option.some.injEq,Prod.mk.injEq] at H
  obtain ⟨rfl,rfl⟩:=H
  go_enter Try.func20,Try.ntmps20
  go_wp2_with (first|(refine aqI (N:=1) rfl ?_;refine cz 1 #[.int .i64 ag,.slice az af.length ay] 26 bl ?_;intro aA oB aa aqF HB;have aqR:=aqF;obtain ⟨_,_,_,_⟩:=aqA aa)|(refine aqz (f:=68) rfl ?_;refine gC (some 7) Try.func68 #[.agg #[.int .i64 ag,.slice az af.length ay]] ?_;(with_reducible refine (dB.calls k ag _ _ af false _ ?aq ?au A2.z).mono ?_);(case aq=>exact aC (Kd.aqN aW.z HB.z));(case au=>exact bh.z);rintro e vv ⟨rfl,hb⟩;refine ⟨_,rfl,?_⟩;replace aa:=kB aa hb;replace HB:=bW hb))
  go_ret2
  exact ⟨eR,bl⟩
 replace H:=iT H
 have H':=k0 H
 clear H
 go_enter Try.func20,Try.ntmps20
 go_wp2_with (first|(refine aqI (N:=1) rfl ?_;refine cz 1 #[.int .i64 ag,.slice az af.length ay] 26 bl ?_;intro aA w4 aa aqF HB;have aqR:=aqF;obtain ⟨_,_,_,_⟩:=aqA aa)|(refine aqz (f:=68) rfl ?_;refine gC (some 7) Try.func68 #[.agg #[.int .i64 ag,.slice az af.length ay]] ?_;(with_reducible refine (dB.calls k ag _ _ af true _ ?aq ?au A2.z).mono ?_);(case aq=>exact aC (Kd.aqN aW.z HB.z));(case au=>exact bh.z);rintro e w6 ⟨rfl,hb⟩;refine ⟨_,rfl,?_⟩;replace aa:=kB aa hb;replace HB:=bW hb))
 go_loopg [4,5] k (fun kq v4 v5 w'=>∃ (bR:Int) (bK:Int),v4=.int .i64 bR∧v5=.int .i64 bK∧ai (pR.l0 kq bR bK ag af=some (r1,r2))∧ai (kq≤k)∧ai (w'.heap[aA]?=some (sO ag az af ay 26))∧ai (Below w.heap.size w w'))
 case atStart=>exact ⟨(1),(0),rs,rs,H',⟨Nat.le_refl _⟩,⟨bk⟩,⟨bl⟩⟩
 case round =>
  clear H'
  obtain ⟨bR,bK,rfl,rfl,HA,aI,aa,HB⟩:=hrel
  cases gk with
  | zero=>exact absurd HA.z (by simp [pR.l0])
  | succ k1 =>
   have H:=HA.z
   clear HA
   simp only [pR.l0] at H
   replace H:=iC H;obtain ⟨l8,H⟩|⟨l8,H⟩:=H
   case inl =>
    simp only [Option.some.injEq,Prod.mk.injEq] at H
    obtain ⟨rfl,rfl⟩:=H
    obtain ⟨_,_,_,_⟩:=aqA aa
    go_wp2
    go_ret2
    exact ⟨eR,bl⟩
   replace H:=bS H;obtain ⟨t103,A8,H⟩:=H
   have H':=k0 H
   clear H
   obtain ⟨_,_,_,_⟩:=aqA aa
   go_wp2_with (first|(refine aqz (f:=72) rfl ?_;refine gC (some 18) Try.func72 #[.agg #[.int .i64 ag,.slice az af.length ay],.int .i64 bK] ?_;(with_reducible refine (jr.calls k1 ag _ _ af bK t103 _ ?aq ?au A8.z).mono ?_);(case aq=>exact aC (Kd.aqN aW.z HB.z));(case au=>exact bh.z);rintro e jh ⟨rfl,hb⟩;refine ⟨_,rfl,?_⟩;replace aa:=kB aa hb;replace HB:=bW hb))
   go_roundg k1
   case measure=>have:=aI.z;omega
   case rel=>exact ⟨(wrap64 (bR * (wrap64 (t103 - 1)))),(wrap64 (bK+1)),rs,rs,H',⟨by have:=aI.z;omega⟩,⟨bk⟩,⟨bl⟩⟩
/-! ### F21: function 21 -/
def Bl.f (k:Nat) (l0:List Int):Option (Int × (List (List Int))):=(aq5.f k l0).bind fun cN=>((ng.f k cN.1 cN.2.1 cN.2.2).bind fun dM=>(some (dM.1,dM.2.1)))
theorem Bl.calls (k : Nat) (A0 : Option Addr) (c0 : Nat) (l0 : List Int) (r1 : Int) (r2 : List (List Int)) (w : World) (bZ : Kd.C (Kd.int .u8) w A0 l0.length l0) (hc0 : l0.length ≤ c0) (h : Bl.f k l0 = some (r1, r2)) :
  Calls Try.prog 21 #[.slice A0 l0.length c0] w fun e w'=>∃ fK:Value,e=.returned (.agg #[.int .i64 r1,fK])∧Kd.V (Kd.slice 2 (Kd.int .i64)) 29 w' w.heap.size (fun k_=>(w.heap.size≤k_)) fK r2∧Below w.heap.size w w':=by
 have eE:=Try.underlying26
 have cP:=k0 bZ
 have fq:=k0 hc0
 clear bZ hc0
 have HB:=k0 (Below.refl w.heap.size w)
 unfold Bl.f at h
 have H:=h
 clear h
 replace H:=bS H;obtain ⟨⟨t102,t103,t104⟩,A2,H⟩:=H
 dsimp only at H
 replace H:=bS H;obtain ⟨⟨t106,t107,t110,t111⟩,A3,H⟩:=H
 dsimp only at H
 simp only [Option.some.injEq,Prod.mk.injEq] at H
 obtain ⟨rfl,rfl⟩:=H
 go_enter Try.func21,Try.ntmps21
 go_wp2_with (first|(refine aqI (N:=2) rfl ?_;refine cz 2 #[.int .i64 0,.slice none 0 0] 26 bl ?_;intro aA w4 aa aqF HB;have aqR:=aqF)|(refine aqz (f:=47) rfl ?_;refine gC (some 4) Try.func47 #[.slice A0 l0.length c0] ?_;(with_reducible refine (aq5.calls k _ _ l0 t102 t103 t104 w _ ?aq ?au ?cr A2.z).mono ?_);(case aq=>exact aL HB.z);(case au=>exact cP.z);(case cr=>exact fq.z);rintro e w5 ⟨g105,rfl,hi,hb,eU⟩;refine ⟨_,rfl,?_⟩;replace HB:=k0 (hb);have aM:=k0 (hi);have oU:=k0 (aj.qo hi (cV (aB aa.z) eU) (by decide));have hU:=k0 (Ne.symm (aj.qo hi (cV (aB aa.z) eU) (by decide)));replace aa:=kB aa eU)|(refine aqz (f:=48) rfl ?_;refine gC (some 5) Try.func48 #[.pointer (some ⟨g105,0,none⟩)] ?_;(with_reducible refine (ng.calls k g105 t102 t103 t104 t106 t107 t110 t111 w _ ?aq ?au A3.z).mono ?_);(case aq=>exact aqy aM.z);(case au=>exact aG (aj.ge aM.z) HB.z);rintro e w6 ⟨q3,rfl,aD,hi,hb,hk⟩;refine ⟨_,rfl,?_⟩;have bD:=k0 (Kd.p_ (Kd.aZ (ok':=fun k_=>(w.heap.size≤k_)∧k_ ≠ aA∧k_ ≠ g105) aD (fun k_ aqJ=>⟨(Nat.le_trans (aqG (aG (aj.ge aM.z) HB.z)) aqJ),(Kd.ig (aB aa.z) k_ aqJ),(aj.fresh (aqy aM.z) k_ aqJ)⟩)) (aqG (aG (aj.ge aM.z) HB.z)));replace aa:=kK hk aa hU;replace HB:=k0 (hb);replace aM:=k0 (hi);obtain ⟨_,_⟩:=nE hU;obtain ⟨_,_,_,_⟩:=aqA aa;obtain ⟨sQ,qf,rfl⟩:=Kd.arO bD.z))
 refine bodyPost_ret (results_cell_row rfl _ _ aA 26 #[.int .i64 t106,.slice sQ t107.length qf] (0,0) _ rfl kZ Try.underlying26 rfl (by kernel_rfl)) rfl ?_
 exact ⟨_,eR,aV (Kd.aZ (Kd.je (p:=⟨aA,1,none⟩) (Kd.je (p:=⟨aA,0,none⟩) (Kd.aZ bD.z (fun k_ hk=>(⟨hk,hk.2.1⟩:_∧k_ ≠ aA))) (fun _ hk=>hk.2) (.int .i64 t106)) (fun _ hk=>hk.2) (.slice sQ t107.length qf)) (fun _ hk=>hk.1.1)),aG (aj.ge aM.z) HB.z⟩
/-! ### F73: function 73 -/
def zx.f (k:Nat) (ag:Int) (af:List (List Int)):Option ((List (List Int)) × Int):=(jq.f k ag af).bind fun t102=>(if t102=true then ((gI.f k ag af).bind fun t103=>(some (t103,0))) else (some (([]:List (List Int)),1)))
theorem zx.calls (k : Nat) (ag : Int) (az : Option Addr) (ay : Nat) (af : List (List Int)) (r1 : List (List Int)) (r2 : Int) (w : World) (aqO : Kd.C (Kd.slice 2 (Kd.int .i64)) w az af.length af) (bG : af.length ≤ ay) (h : zx.f k ag af = some (r1, r2)) :
  Calls Try.prog 73 #[.agg #[.int .i64 ag,.slice az af.length ay]] w fun e w'=>∃ cR:Value,e=.returned (.tuple #[cR,.int .i64 r2])∧Kd.S (Kd.slice 2 (Kd.int .i64)) 29 w' w.heap.size (fun _=>True) cR r1∧Below w.heap.size w w':=by
 have eE:=Try.underlying26
 have aW:=k0 aqO
 have bh:=k0 bG
 clear aqO bG
 have HB:=k0 (Below.refl w.heap.size w)
 unfold zx.f at h
 have H:=h
 clear h
 replace H:=bS H;obtain ⟨t102,A2,H⟩:=H
 cases t102
 case false =>
  replace H:=iF H
  simp only [Option.some.injEq,Prod.mk.injEq] at H
  obtain ⟨rfl,rfl⟩:=H
  go_enter Try.func73,Try.ntmps73
  go_wp2_with (first|(refine aqI (N:=1) rfl ?_;refine cz 1 #[.int .i64 ag,.slice az af.length ay] 26 bl ?_;intro aA jh aa aqF HB;have aqR:=aqF;obtain ⟨_,_,_,_⟩:=aqA aa)|(refine aqz (f:=66) rfl ?_;refine gC (some 5) Try.func66 #[.agg #[.int .i64 ag,.slice az af.length ay]] ?_;(with_reducible refine (jq.calls k ag _ _ af false _ ?aq ?au A2.z).mono ?_);(case aq=>exact aC (Kd.aqN aW.z HB.z));(case au=>exact bh.z);rintro e oB ⟨rfl,hb⟩;refine ⟨_,rfl,?_⟩;replace aa:=kB aa hb;replace HB:=bW hb))
  go_ret2
  exact ⟨_,eR,by first|exact Kd.ase _ _ _ _ _|exact Kd.sX _ _ _ _ _|exact Kd.s6 _ _ _ _ _|exact Kd.sZ _ _ _ _ _|exact Kd.p6 _ _ _ _ _,bl⟩
 replace H:=iT H
 replace H:=bS H;obtain ⟨t103,A4,H⟩:=H
 simp only [Option.some.injEq,Prod.mk.injEq] at H
 obtain ⟨rfl,rfl⟩:=H
 go_enter Try.func73,Try.ntmps73
 go_wp2_with (first|(refine aqI (N:=1) rfl ?_;refine cz 1 #[.int .i64 ag,.slice az af.length ay] 26 bl ?_;intro aA w5 aa aqF HB;have aqR:=aqF;obtain ⟨_,_,_,_⟩:=aqA aa)|(refine aqz (f:=66) rfl ?_;refine gC (some 5) Try.func66 #[.agg #[.int .i64 ag,.slice az af.length ay]] ?_;(with_reducible refine (jq.calls k ag _ _ af true _ ?aq ?au A2.z).mono ?_);(case aq=>exact aC (Kd.aqN aW.z HB.z));(case au=>exact bh.z);rintro e w7 ⟨rfl,hb⟩;refine ⟨_,rfl,?_⟩;replace aa:=kB aa hb;replace HB:=bW hb;obtain ⟨_,_,_,_⟩:=aqA aa)|(refine aqz (f:=101) rfl ?_;refine gC (some 8) Try.func101 #[.agg #[.int .i64 ag,.slice az af.length ay]] ?_;(with_reducible refine (gI.calls k ag _ _ af t103 _ ?aq ?au A4.z).mono ?_);(case aq=>exact aC (Kd.aqN aW.z HB.z));(case au=>exact bh.z);rintro e w9 ⟨mT,rfl,aD,hb⟩;refine ⟨_,rfl,?_⟩;have b8:=k0 (Kd.fT aD (aqG bl));replace aa:=kB aa hb;replace HB:=bW hb))
 go_ret2
 exact ⟨_,eR,aS b8.z,bl⟩
/-! ### F22: function 22 -/
def zq.f (k:Nat) (ag:Int) (af:List (List Int)):Option ((List (List Int)) × Int):=(zx.f k ag af).bind fun cN=>(some (cN.1,cN.2))
theorem zq.calls (k : Nat) (ag : Int) (az : Option Addr) (ay : Nat) (af : List (List Int)) (r1 : List (List Int)) (r2 : Int) (w : World) (aqO : Kd.C (Kd.slice 2 (Kd.int .i64)) w az af.length af) (bG : af.length ≤ ay) (h : zq.f k ag af = some (r1, r2)) :
  Calls Try.prog 22 #[.agg #[.int .i64 ag,.slice az af.length ay]] w fun e w'=>∃ cR:Value,e=.returned (.tuple #[cR,.int .i64 r2])∧Kd.S (Kd.slice 2 (Kd.int .i64)) 29 w' w.heap.size (fun _=>True) cR r1∧Below w.heap.size w w':=by
 have eE:=Try.underlying26
 have aW:=k0 aqO
 have bh:=k0 bG
 clear aqO bG
 have HB:=k0 (Below.refl w.heap.size w)
 unfold zq.f at h
 have H:=h
 clear h
 replace H:=bS H;obtain ⟨⟨t102,t105⟩,A2,H⟩:=H
 dsimp only at H
 simp only [Option.some.injEq,Prod.mk.injEq] at H
 obtain ⟨rfl,rfl⟩:=H
 go_enter Try.func22,Try.ntmps22
 go_wp2_with (first|(refine aqI (N:=1) rfl ?_;refine cz 1 #[.int .i64 ag,.slice az af.length ay] 26 bl ?_;intro aA w3 aa aqF HB;have aqR:=aqF;obtain ⟨_,_,_,_⟩:=aqA aa)|(refine aqz (f:=73) rfl ?_;refine gC (some 5) Try.func73 #[.agg #[.int .i64 ag,.slice az af.length ay]] ?_;(with_reducible refine (zx.calls k ag _ _ af t102 t105 _ ?aq ?au A2.z).mono ?_);(case aq=>exact aC (Kd.aqN aW.z HB.z));(case au=>exact bh.z);rintro e w5 ⟨ary,rfl,aD,hb⟩;refine ⟨_,rfl,?_⟩;have bU:=k0 (Kd.fT aD (aqG bl));replace aa:=kB aa hb;replace HB:=bW hb))
 go_ret2
 exact ⟨_,eR,aS bU.z,bl⟩
/-! ### F23: function 23 -/
def zu.f (k:Nat) (ag:Int) (af:List (List Int)):Option ((List (List Int)) × Int):=(dB.f k ag af).bind fun t102=>(if t102=true then ((gu.f k ag af).bind fun t103=>(some (t103,0))) else (some (([]:List (List Int)),1)))
theorem zu.calls (k : Nat) (ag : Int) (az : Option Addr) (ay : Nat) (af : List (List Int)) (r1 : List (List Int)) (r2 : Int) (w : World) (aqO : Kd.C (Kd.slice 2 (Kd.int .i64)) w az af.length af) (bG : af.length ≤ ay) (h : zu.f k ag af = some (r1, r2)) :
  Calls Try.prog 23 #[.agg #[.int .i64 ag,.slice az af.length ay]] w fun e w'=>∃ cR:Value,e=.returned (.tuple #[cR,.int .i64 r2])∧Kd.S (Kd.slice 2 (Kd.int .i64)) 29 w' w.heap.size (fun _=>True) cR r1∧Below w.heap.size w w':=by
 have eE:=Try.underlying26
 have aW:=k0 aqO
 have bh:=k0 bG
 clear aqO bG
 have HB:=k0 (Below.refl w.heap.size w)
 unfold zu.f at h
 have H:=h
 clear h
 replace H:=bS H;obtain ⟨t102,A2,H⟩:=H
 cases t102
 case false =>
  replace H:=iF H
  simp only [Option.some.injEq,Prod.mk.injEq] at H
  obtain ⟨rfl,rfl⟩:=H
  go_enter Try.func23,Try.ntmps23
  go_wp2_with (first|(refine aqI (N:=1) rfl ?_;refine cz 1 #[.int .i64 ag,.slice az af.length ay] 26 bl ?_;intro aA jh aa aqF HB;have aqR:=aqF;obtain ⟨_,_,_,_⟩:=aqA aa)|(refine aqz (f:=68) rfl ?_;refine gC (some 5) Try.func68 #[.agg #[.int .i64 ag,.slice az af.length ay]] ?_;(with_reducible refine (dB.calls k ag _ _ af false _ ?aq ?au A2.z).mono ?_);(case aq=>exact aC (Kd.aqN aW.z HB.z));(case au=>exact bh.z);rintro e oB ⟨rfl,hb⟩;refine ⟨_,rfl,?_⟩;replace aa:=kB aa hb;replace HB:=bW hb))
  go_ret2
  exact ⟨_,eR,by first|exact Kd.ase _ _ _ _ _|exact Kd.sX _ _ _ _ _|exact Kd.s6 _ _ _ _ _|exact Kd.sZ _ _ _ _ _|exact Kd.p6 _ _ _ _ _,bl⟩
 replace H:=iT H
 replace H:=bS H;obtain ⟨t103,A4,H⟩:=H
 simp only [Option.some.injEq,Prod.mk.injEq] at H
 obtain ⟨rfl,rfl⟩:=H
 go_enter Try.func23,Try.ntmps23
 go_wp2_with (first|(refine aqI (N:=1) rfl ?_;refine cz 1 #[.int .i64 ag,.slice az af.length ay] 26 bl ?_;intro aA w5 aa aqF HB;have aqR:=aqF;obtain ⟨_,_,_,_⟩:=aqA aa)|(refine aqz (f:=68) rfl ?_;refine gC (some 5) Try.func68 #[.agg #[.int .i64 ag,.slice az af.length ay]] ?_;(with_reducible refine (dB.calls k ag _ _ af true _ ?aq ?au A2.z).mono ?_);(case aq=>exact aC (Kd.aqN aW.z HB.z));(case au=>exact bh.z);rintro e w7 ⟨rfl,hb⟩;refine ⟨_,rfl,?_⟩;replace aa:=kB aa hb;replace HB:=bW hb;obtain ⟨_,_,_,_⟩:=aqA aa)|(refine aqz (f:=70) rfl ?_;refine gC (some 8) Try.func70 #[.agg #[.int .i64 ag,.slice az af.length ay]] ?_;(with_reducible refine (gu.calls k ag _ _ af t103 _ ?aq ?au A4.z).mono ?_);(case aq=>exact aC (Kd.aqN aW.z HB.z));(case au=>exact bh.z);rintro e w9 ⟨mT,rfl,aD,hb⟩;refine ⟨_,rfl,?_⟩;have b8:=k0 (Kd.fT aD (aqG bl));replace aa:=kB aa hb;replace HB:=bW hb))
 go_ret2
 exact ⟨_,eR,aS b8.z,bl⟩
/-! ### F24: function 24 -/
def pS.l0 : Nat → List (List Int) → List (List Int) → Int → Option (Bool)
 | 0,_,_,_=>none
 | k+1,x0,x1,x5=>if x5 < (x0.length:Int) then (if 0≤x5 then (if x5 < (x1.length:Int) then ((F9.f k (ah x0 x5) (ah x1 x5)).bind fun t103=>(if t103=true then (pS.l0 k x0 x1 (wrap64 (x5+1))) else (some false))) else (none)) else (none)) else (some true)
def pS.f (k:Nat) (l0:List (List Int)) (l1:List (List Int)):Option (Bool):=if (l0.length:Int)=(l1.length:Int) then (pS.l0 k l0 l1 0) else (some false)
theorem pS.calls (k : Nat) (A0 : Option Addr) (c0 : Nat) (l0 : List (List Int)) (A1 : Option Addr) (c1 : Nat) (l1 : List (List Int)) (r : Bool) (w : World) (bZ : Kd.C (Kd.slice 2 (Kd.int .i64)) w A0 l0.length l0) (hc0 : l0.length ≤ c0) (arC : Kd.C (Kd.slice 2 (Kd.int .i64)) w A1 l1.length l1) (ql : l1.length ≤ c1) (h : pS.f k l0 l1 = some r) :
  Calls Try.prog 24 #[.slice A0 l0.length c0,.slice A1 l1.length c1] w fun e w'=>e=.returned (.bool r)∧eX w w':=by
 have cP:=k0 bZ
 have fq:=k0 hc0
 clear bZ hc0
 have ue:=k0 arC
 have J6:=k0 ql
 clear arC ql
 unfold pS.f at h
 have H:=h
 clear h
 by_cases c3:(l0.length:Int)=(l1.length:Int)
 case neg =>
  rw [if_neg c3] at H
  have ia:=beq_eq_false_iff_ne.mpr c3
  have qb:=bne_iff_ne.mpr c3
  have LC:(l0.length == l1.length)=false:=by first|simpa using c3|(simp at c3 ⊢;omega)
  obtain rfl:=Option.some.inj H
  go_enter Try.func24,Try.ntmps24
  go_wp2
  go_ret
  exact ⟨rs,dW⟩
 rw [if_pos c3] at H
 have ia:=beq_iff_eq.mpr c3
 have qb:=bne_eq_false_iff_eq.mpr c3
 have LC:(l0.length == l1.length)=true:=by first|simpa using c3|(simp at c3 ⊢;omega)
 clear c3
 have H':=k0 H
 clear H
 go_enter Try.func24,Try.ntmps24
 go_wp2
 go_loopg [5] k (fun kq v5 w'=>∃ (bK:Int),v5=.int .i64 bK∧ai (pS.l0 kq l0 l1 bK=some r)∧ai (kq≤k)∧eX w w')
 case atStart=>exact ⟨(0),rs,H',⟨Nat.le_refl _⟩,dW⟩
 case round =>
  clear H'
  obtain ⟨bK,rfl,HA,aI,⟨m1,rfl⟩⟩:=hrel
  cases gk with
  | zero=>exact absurd HA.z (by simp [pS.l0])
  | succ k1 =>
   have H:=HA.z
   clear HA
   simp only [pS.l0] at H
   replace H:=iC H;obtain ⟨ej,H⟩|⟨ej,H⟩:=H
   case inl =>
    obtain rfl:=Option.some.inj H
    go_wp2
    go_ret
    exact ⟨rs,dW⟩
   replace H:=iS H;obtain ⟨c5,H⟩:=H
   have gD:=decide_eq_true c5
   clear c5
   replace H:=iS H;obtain ⟨c6,H⟩:=H
   have fN:=decide_eq_true c6
   clear c6
   replace H:=bS H;obtain ⟨t103,A7,H⟩:=H
   cases t103
   case false =>
    replace H:=iF H
    obtain rfl:=Option.some.inj H
    obtain ⟨dY,dZ⟩:=iN bK (l0.length:Int)
    obtain ⟨ny,O8,RR,e101,lQ,yp,yj⟩:=cD cP.z bK dY dZ
    cases e101
    have wB:=k0 yj
    have xC:=k0 yp
    clear yj yp
    replace dY:=eT dY
    replace dZ:=eT dZ
    obtain ⟨cT,cU⟩:=iN bK (l1.length:Int)
    obtain ⟨nZ,asa,s9,e102,fB,aq8,gj⟩:=cD ue.z bK cT cU
    cases e102
    have gb:=k0 gj
    have nU:=k0 aq8
    clear gj aq8
    replace cT:=eT cT
    replace cU:=eT cU
    go_wp2_with (first|(go_at_call 9;(with_reducible refine (F9.calls k1 _ _ (ah l0 bK) _ _ (ah l1 bK) false _ ?aq ?au ?cr ?dw A7.z).mono ?_);(case aq=>exact aC wB.z);(case au=>exact xC.z);(case cr=>exact aC gb.z);(case dw=>exact nU.z);rintro e w' ⟨rfl,⟨nd,rfl⟩⟩;(try exact dN)))
    repeat (go_quiet (first|(go_at_call 9;(with_reducible refine (F9.calls k1 _ _ (ah l0 bK) _ _ (ah l1 bK) false _ ?aq ?au ?cr ?dw A7.z).mono ?_);(case aq=>exact aC wB.z);(case au=>exact xC.z);(case cr=>exact aC gb.z);(case dw=>exact nU.z);rintro e w' ⟨rfl,⟨nd,rfl⟩⟩;(try exact dN)));try go_wp2_with (first|(go_at_call 9;(with_reducible refine (F9.calls k1 _ _ (ah l0 bK) _ _ (ah l1 bK) false _ ?aq ?au ?cr ?dw A7.z).mono ?_);(case aq=>exact aC wB.z);(case au=>exact xC.z);(case cr=>exact aC gb.z);(case dw=>exact nU.z);rintro e w' ⟨rfl,⟨nd,rfl⟩⟩;(try exact dN))))
    go_ret
    exact ⟨rs,dW⟩
   replace H:=iT H
   have H':=k0 H
   clear H
   obtain ⟨dY,dZ⟩:=iN bK (l0.length:Int)
   obtain ⟨ny,O8,RR,e101,lQ,yp,yj⟩:=cD cP.z bK dY dZ
   cases e101
   have wB:=k0 yj
   have xC:=k0 yp
   clear yj yp
   replace dY:=eT dY
   replace dZ:=eT dZ
   obtain ⟨cT,cU⟩:=iN bK (l1.length:Int)
   obtain ⟨nZ,asa,s9,e102,fB,aq8,gj⟩:=cD ue.z bK cT cU
   cases e102
   have gb:=k0 gj
   have nU:=k0 aq8
   clear gj aq8
   replace cT:=eT cT
   replace cU:=eT cU
   go_wp2_with (first|(go_at_call 9;(with_reducible refine (F9.calls k1 _ _ (ah l0 bK) _ _ (ah l1 bK) true _ ?aq ?au ?cr ?dw A7.z).mono ?_);(case aq=>exact aC wB.z);(case au=>exact xC.z);(case cr=>exact aC gb.z);(case dw=>exact nU.z);rintro e w' ⟨rfl,⟨nd,rfl⟩⟩;(try exact dN)))
   repeat (go_quiet (first|(go_at_call 9;(with_reducible refine (F9.calls k1 _ _ (ah l0 bK) _ _ (ah l1 bK) true _ ?aq ?au ?cr ?dw A7.z).mono ?_);(case aq=>exact aC wB.z);(case au=>exact xC.z);(case cr=>exact aC gb.z);(case dw=>exact nU.z);rintro e w' ⟨rfl,⟨nd,rfl⟩⟩;(try exact dN)));try go_wp2_with (first|(go_at_call 9;(with_reducible refine (F9.calls k1 _ _ (ah l0 bK) _ _ (ah l1 bK) true _ ?aq ?au ?cr ?dw A7.z).mono ?_);(case aq=>exact aC wB.z);(case au=>exact xC.z);(case cr=>exact aC gb.z);(case dw=>exact nU.z);rintro e w' ⟨rfl,⟨nd,rfl⟩⟩;(try exact dN))))
   go_roundg k1
   case measure=>have:=aI.z;omega
   case rel=>exact ⟨(wrap64 (bK+1)),rs,H',⟨by have:=aI.z;omega⟩,dW⟩
/-! ### F25: function 25 -/
def oN.l0 : Nat → List Int → Int → Int → Option (Int)
 | 0,_,_,_=>none
 | k+1,x0,x3,x4=>if x4 < (x0.length:Int) then (if 0≤x4 then (oN.l0 k x0 (wrap64 (x3+(rd x0 x4))) (wrap64 (x4+1))) else (none)) else (some x3)
def oN.f (k:Nat) (l0:List Int):Option (Int):=oN.l0 k l0 0 0
theorem oN.calls (k : Nat) (A0 : Option Addr) (c0 : Nat) (l0 : List Int) (r : Int) (w : World) (bZ : Kd.C (Kd.int .i64) w A0 l0.length l0) (hc0 : l0.length ≤ c0) (h : oN.f k l0 = some r) :
  Calls Try.prog 25 #[.slice A0 l0.length c0] w fun e w'=>e=.returned (.int .i64 r)∧eX w w':=by
 have cP:=k0 bZ
 have fq:=k0 hc0
 clear bZ hc0
 unfold oN.f at h
 have H:=h
 clear h
 have H':=k0 H
 clear H
 go_enter Try.func25,Try.ntmps25
 go_wp2
 go_loopg [3,4] k (fun kq v3 v4 w'=>∃ (bp:Int) (bR:Int),v3=.int .i64 bp∧v4=.int .i64 bR∧ai (oN.l0 kq l0 bp bR=some r)∧ai (kq≤k)∧eX w w')
 case atStart=>exact ⟨(0),(0),rs,rs,H',⟨Nat.le_refl _⟩,dW⟩
 case round =>
  clear H'
  obtain ⟨bp,bR,rfl,rfl,HA,aI,⟨m1,rfl⟩⟩:=hrel
  cases gk with
  | zero=>exact absurd HA.z (by simp [oN.l0])
  | succ k1 =>
   have H:=HA.z
   clear HA
   simp only [oN.l0] at H
   replace H:=iC H;obtain ⟨s_,H⟩|⟨s_,H⟩:=H
   case inl =>
    obtain rfl:=Option.some.inj H
    go_wp2
    go_ret
    exact ⟨rs,dW⟩
   replace H:=iS H;obtain ⟨c3,H⟩:=H
   have ia:=decide_eq_true c3
   clear c3
   have H':=k0 H
   clear H
   obtain ⟨dY,dZ⟩:=iN bR (l0.length:Int)
   obtain ⟨ny,e101,lQ⟩:=Kd.bM cP.z bR dY dZ
   cases e101
   replace dY:=eT dY
   replace dZ:=eT dZ
   go_wp2
   go_roundg k1
   case measure=>have:=aI.z;omega
   case rel=>exact ⟨(wrap64 (bp+(rd l0 bR))),(wrap64 (bR+1)),rs,rs,H',⟨by have:=aI.z;omega⟩,dW⟩
end Go.Proofs.Ytapnggjaeehpdaa.A
/- Set with little white space, by a program. -/
