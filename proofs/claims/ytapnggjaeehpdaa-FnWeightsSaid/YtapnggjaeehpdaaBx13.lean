/- Go's calls come to what the Lean functions say. Condition of each: that the Lean function answers. -/
import Derived.Test.YtapnggjaeehpdaaBx0
import Derived.Test.YtapnggjaeehpdaaBx1
import Derived.Test.YtapnggjaeehpdaaBx3
import Derived.Test.YtapnggjaeehpdaaBx4
import Derived.Test.YtapnggjaeehpdaaBx8
import Derived.Test.YtapnggjaeehpdaaBx11
import Derived.Test.YtapnggjaeehpdaaBx12
namespace Go.Proofs.Ytapnggjaeehpdaa.B
open Go.RowKit Go.Proofs.bz.dI Go.Proofs.bz.iY Go.Proofs.bz.jn
attribute [local go_sem] max2_int min2_int max_two min_two max_three min_three max_four min_four
set_option linter.unusedVariables false
set_option linter.unusedSimpArgs false
set_option maxHeartbeats 8000000
set_option maxRecDepth 100000
/-! ### F33: function 33 -/
def uf.f (k:Nat) (a0:Int) (aE:Int) (az:List (List Int)) (l2:List Int):Option (List Int × Int):=(zV.f k aE az a0 aE az l2).bind fun t104=>(if t104=0 then ((gw.f k aE az l2).bind fun t105=>((cE.f k t105 a0).bind fun t108=>(some (t108,0)))) else (some (([]:List Int),t104)))
theorem uf.calls (k : Nat) (a0 : Int) (aE : Int) (atb : Option Addr) (atc : Nat) (az : List (List Int)) (A2 : Option Addr) (c2 : Nat) (l2 : List Int) (r1 : List Int) (r2 : Int) (w : World) (iB : Kd.C (Kd.slice 2 (Kd.int .i64)) w atb az.length az) (iz : az.length ≤ atc) (atQ : Kd.C (Kd.int .i64) w A2 l2.length l2) (at4 : l2.length ≤ c2) (h : uf.f k a0 aE az l2 = some (r1, r2)) :
  Calls Try.prog 33 #[.int .i64 a0,.agg #[.int .i64 aE,.slice atb az.length atc],.slice A2 l2.length c2] w fun e w'=>∃ ati:Value,e=.returned (.tuple #[ati,.int .i64 r2])∧Kd.R (Kd.int .i64) 2 w' w.heap.size (fun _=>True) ati r1∧Below w.heap.size w w':=by
 have gV:=Try.underlying26
 have ep:=k0 iB
 have eo:=k0 iz
 clear iB iz
 have iX:=k0 atQ
 have atO:=k0 at4
 clear atQ at4
 have HB:=k0 (Below.refl w.heap.size w)
 unfold uf.f at h
 have H:=h
 clear h
 replace H:=bS H;obtain ⟨t104,A4,H⟩:=H
 replace H:=iE H;obtain ⟨c5,gJ,rA,H⟩|⟨gJ,rA,H⟩:=H
 case inl =>
  obtain ⟨rfl,rfl⟩:=mT H
  go_enter Try.func33,Try.ntmps33
  go_wp2_with (first|(refine aX (N:=3) rfl ?_;refine dL 3 #[.int .i64 a0] 2 bl ?_;intro ay C_ aa bn HB;have cG:=bn)|(refine aX (N:=4) rfl ?_;refine eJ 4 #[.int .i64 aE,.slice atb az.length atc] 26 ?_;intro cY hg Iw aY hb;have as5:=k0 aY;have j9:=gW hg (as8 bl);have q6:=j9;replace HB:=bW hb;have gh:=nL hg aa;have nx:=nG gh;replace aa:=kB aa hb;clear hb aY hg)|(refine aX (N:=5) rfl ?_;refine eJ 5 #[.slice A2 l2.length c2] 29 ?_;intro nc hg Lw aY hb;have cL:=k0 aY;have sP:=gW hg (as8 bl);have BN:=sP;replace HB:=bW hb;have auF:=nL hg aa;replace aa:=kB aa hb;have Ab:=nG auF;have ny:=nL hg as5;replace as5:=kB as5 hb;have yM:=nG ny;clear hb aY hg;obtain ⟨_,_⟩:=nE nx;obtain ⟨_,_⟩:=nE ny;obtain ⟨_,_,_,_⟩:=as9 as5)|(refine aT (f:=62) rfl ?_;refine gC (some 11) Try.func62 #[.agg #[.int .i64 aE,.slice atb az.length atc],.func (.func 76) #[] #[.pointer (some ⟨ay,0,none⟩),.pointer (some ⟨cY,0,none⟩),.pointer (some ⟨nc,0,none⟩)]] ?_;(with_reducible refine (zV.calls k aE _ _ az a0 aE atb atc az A2 c2 l2 t104 _ ?av ?ax ?bM ?bT ?iG ?rJ ?xd ?xe ?xg A4.z).mono ?_);(case av=>exact aC (Kd.bL ep.z HB.z));(case ax=>exact eo.z);(case bM=>exact aC (Kd.bL ep.z HB.z));(case bT=>exact eo.z);(case iG=>exact aC (Kd.bL iX.z HB.z));(case rJ=>exact atO.z);(case xd=>exact by exact bk);(case xe=>exact by exact bk);(case xg=>exact by exact bk);rintro e Ix ⟨rfl,hb⟩;refine ⟨_,rfl,?_⟩;replace aa:=kB aa hb;replace as5:=kB as5 hb;replace cL:=kB cL hb;replace HB:=bW hb))
  go_ret2
  exact ⟨_,eR,by first|exact Kd.rZ _ _ _ _ _|exact Kd.xR _ _ _ _ _|exact Kd.xX _ _ _ _ _|exact Kd.xV _ _ _ _ _|exact Kd.xW _ _ _ _ _,bl⟩
 replace H:=bS H;obtain ⟨t105,A6,H⟩:=H
 replace H:=bS H;obtain ⟨t108,A7,H⟩:=H
 obtain ⟨rfl,rfl⟩:=mT H
 go_enter Try.func33,Try.ntmps33
 try go_wp2_with (first|(refine aX (N:=3) rfl ?_;refine dL 3 #[.int .i64 a0] 2 bl ?_;intro ay w8 aa bn HB;have cG:=bn)|(refine aX (N:=4) rfl ?_;refine eJ 4 #[.int .i64 aE,.slice atb az.length atc] 26 ?_;intro cY hg w9 aY hb;have as5:=k0 aY;have j9:=gW hg (as8 bl);have q6:=j9;replace HB:=bW hb;have gh:=nL hg aa;have nx:=nG gh;replace aa:=kB aa hb;clear hb aY hg)|(refine aX (N:=5) rfl ?_;refine eJ 5 #[.slice A2 l2.length c2] 29 ?_;intro nc hg pT aY hb;have cL:=k0 aY;have sP:=gW hg (as8 bl);have BN:=sP;replace HB:=bW hb;have auF:=nL hg aa;replace aa:=kB aa hb;have Ab:=nG auF;have ny:=nL hg as5;replace as5:=kB as5 hb;have yM:=nG ny;clear hb aY hg;obtain ⟨_,_⟩:=nE nx;obtain ⟨_,_⟩:=nE ny;obtain ⟨_,_,_,_⟩:=as9 as5)|(refine aT (f:=62) rfl ?_;refine gC (some 11) Try.func62 #[.agg #[.int .i64 aE,.slice atb az.length atc],.func (.func 76) #[] #[.pointer (some ⟨ay,0,none⟩),.pointer (some ⟨cY,0,none⟩),.pointer (some ⟨nc,0,none⟩)]] ?_;(with_reducible refine (zV.calls k aE _ _ az a0 aE atb atc az A2 c2 l2 t104 _ ?av ?ax ?bM ?bT ?iG ?rJ ?xd ?xe ?xg A4.z).mono ?_);(case av=>exact aC (Kd.bL ep.z HB.z));(case ax=>exact eo.z);(case bM=>exact aC (Kd.bL ep.z HB.z));(case bT=>exact eo.z);(case iG=>exact aC (Kd.bL iX.z HB.z));(case rJ=>exact atO.z);(case xd=>exact by exact bk);(case xe=>exact by exact bk);(case xg=>exact by exact bk);rintro e vk ⟨rfl,hb⟩;refine ⟨_,rfl,?_⟩;replace aa:=kB aa hb;replace as5:=kB as5 hb;replace cL:=kB cL hb;replace HB:=bW hb))
 replace aa:=k0 (dg aa.z);replace as5:=k0 (dg as5.z);replace cL:=k0 (dg cL.z);replace HB:=k0 (eZ HB.z)
 refine atG (n:=7) (S:=fun w'=>w'.cell? ⟨cY,0,none⟩=some (.int .i64 aE)∧w'.cell? ⟨cY,1,none⟩=some (.slice atb az.length atc)∧w'.cell? ⟨nc,0,none⟩=some (.slice A2 l2.length c2)∧w'.cell? ⟨ay,0,none⟩=some (.int .i64 a0)) (ds:=[]) (ba 7 0) (by kernel_rfl) rfl rfl ⟨dU as5,ej as5,dU cL,dU aa⟩ (fun hHeld=>?_)
 generalize vk.drew=sF at aa as5 cL HB hHeld ⊢
 refine oQ (i:=0) (N:=some 15) (v:=?_) (a':=?_) (ba 7 1) rfl rfl (by kernel_rfl) (fun _ _ _ h=>h) (Or.inl ⟨by rfl,?_⟩) hHeld ?_ ?_
 rotate_left;· rintro w' ⟨s0,s1,s2,s3⟩;go_simp;with_reducible rfl
 rotate_left;· simp only [Act.put,zI,zZ,zS,bp,bH];rfl
 refine oQ (i:=1) (N:=some 16) (v:=?_) (a':=?_) (ba 7 3) rfl rfl (by kernel_rfl) (fun _ _ _ h=>h) (Or.inl ⟨by rfl,?_⟩) hHeld ?_ ?_
 rotate_left;· rintro w' ⟨s0,s1,s2,s3⟩;go_simp;with_reducible rfl
 rotate_left;· simp only [Act.put,zI,zZ,zS,bp,bH];rfl
 refine oQ (i:=3) (N:=some 18) (v:=?_) (a':=?_) (ba 7 11) rfl rfl (by kernel_rfl) (fun _ _ _ h=>h) (Or.inl ⟨by rfl,?_⟩) hHeld ?_ ?_
 rotate_left;· rintro w' ⟨s0,s1,s2,s3⟩;go_simp;with_reducible rfl
 rotate_left;· simp only [Act.put,zI,zZ,zS,bp,bH];rfl
 refine atw (i:=2) (N:=some 17) (ba 7 15) rfl rfl (by kernel_rfl) (by decide) (fun K hK=>?_)
 refine mI Try.func80 (by kernel_rfl) rfl #[.agg #[.int .i64 aE,.slice atb az.length atc],.slice A2 l2.length c2] (by rfl) rfl rfl gm ?_
 with_reducible refine (gw.calls k aE _ _ az _ _ l2 t105 _ ?av ?ax ?bM ?bT A6.z).mono ?_
 (case av=>exact aC (Kd.bL ep.z HB.z))
 (case ax=>exact eo.z)
 (case bM=>exact aC (Kd.bL iX.z HB.z))
 (case bT=>exact atO.z)
 rintro e yp ⟨C8,rfl,as2,hb⟩
 refine ⟨_,rfl,?_⟩
 have lz:=k0 (Kd.jD (Kd.Ae (Kd.Ae as2 (aB aa.z)) (aB cL.z)) (as8 bl));replace aa:=kB aa hb;replace as5:=kB as5 hb;replace cL:=kB cL hb;replace HB:=bW hb
 obtain ⟨R6,UQ,U9⟩:=Kd.er lz.z
 (first|subst U9|(injection U9 with atu jq fc;have jr:=atu.symm;have js:=fc.symm;clear atu jq fc;subst jr;subst js))
 refine hK.out _ _ ⟨dU as5,ej as5,dU cL,dU aa⟩ (fun hHeld=>?_)
 clear hK K
 refine hJ (a':=?_) ?_ ?_
 rotate_left;· show Act.put _ (some 17) _=_;simp only [Act.put,zI,zZ,zS,bp,bH];rfl
 refine atw (i:=4) (N:=some 19) (ba 7 31) rfl rfl (by kernel_rfl) (by decide) (fun K hK=>?_)
 refine mI Try.func79 (by kernel_rfl) rfl #[.slice R6 t105.length UQ,.int .i64 a0] (by rfl) rfl rfl gm ?_
 with_reducible refine (cE.calls k _ _ t105 a0 t108 _ ?av ?ax A7.z).mono ?_
 (case av=>exact aC ((Kd.as4 lz.z).2.2))
 (case ax=>exact (Kd.as4 lz.z).2.1)
 rintro e Fc ⟨Lq,rfl,as2,hb⟩
 refine ⟨_,rfl,?_⟩
 replace lz:=kg lz (Kd.bh as2) hb;have fk:=k0 (Kd.cg (Kd.Nz as2 (aB aa.z)) (as8 bl));replace aa:=kB aa hb;replace as5:=kB as5 hb;replace cL:=kB cL hb;replace HB:=bW hb
 refine hK.out _ _ ⟨dU as5,ej as5,dU cL,dU aa⟩ (fun hHeld=>?_)
 clear hK K
 refine hJ (a':=?_) ?_ ?_
 rotate_left;· show Act.put _ (some 19) _=_;simp only [Act.put,zI,zZ,zS,bp,bH];rfl
 refine jc (i:=5) (N:=some 6) (v:=?_) (a':=?_) (ba 7 63) rfl rfl (by kernel_rfl) (fun _ _ _ h=>h) (Or.inl ⟨by rfl,?_⟩) ?_ ?_
 rotate_left;· intro w';go_simp;with_reducible rfl
 rotate_left;· simp only [Act.put,zI,zZ,zS,bp,bH];rfl
 refine jc (i:=6) (N:=some 7) (v:=?_) (a':=?_) (ba 7 127) rfl rfl (by kernel_rfl) (fun _ _ _ h=>h) (Or.inl ⟨by rfl,?_⟩) ?_ ?_
 rotate_left;· intro w';go_simp;with_reducible rfl
 rotate_left;· simp only [Act.put,zI,zZ,zS,bp,bH];rfl
 refine gY (by kernel_rfl) ?_
 try go_wp2
 go_ret2
 exact ⟨_,eR,aR (Kd.aH fk.z (fun _ hk=>trivial)),bl⟩
/-! ### F119: function 119 -/
def mB.l0 : Nat → Int → Int → Option (Bool)
 | 0,_,_=>none
 | k+1,x0,x3=>if (wrap64 (x3 * x3))≤x0 then (if x3=0 then (none) else (if (Int.tmod x0 x3)=0 then (some false) else (mB.l0 k x0 (wrap64 (x3+1))))) else (some true)
def mB.f (k:Nat) (a0:Int):Option (Bool):=(eY.f a0 2 10007).bind fun t101=>(if t101=true then (mB.l0 k a0 2) else (some false))
theorem mB.calls (k : Nat) (a0 : Int) (r : Bool) (w : World) (h : mB.f k a0 = some r) :
  Calls Try.prog 119 #[.int .i64 a0] w fun e w'=>e=.returned (.bool r)∧iV w w':=by
 unfold mB.f at h
 have H:=h
 clear h
 replace H:=bS H;obtain ⟨t101,A2,H⟩:=H
 cases t101
 case false =>
  replace H:=iF H
  obtain rfl:=Option.some.inj H
  go_enter Try.func119,Try.ntmps119
  go_wp2_with (first|(refine aT (f:=61) rfl ?_;refine gC (some 5) Try.func61 #[.int .i64 a0,.int .i64 2,.int .i64 10007] ?_;(with_reducible refine (eY.calls a0 2 10007 false _ A2.z).mono ?_);rintro e w' ⟨rfl,⟨nd,rfl⟩⟩;refine ⟨_,rfl,?_⟩))
  go_ret
  exact ⟨rs,dW⟩
 replace H:=iT H
 have H':=k0 H
 clear H
 go_enter Try.func119,Try.ntmps119
 go_wp2_with (first|(refine aT (f:=61) rfl ?_;refine gC (some 5) Try.func61 #[.int .i64 a0,.int .i64 2,.int .i64 10007] ?_;(with_reducible refine (eY.calls a0 2 10007 true _ A2.z).mono ?_);rintro e w' ⟨rfl,⟨nd,rfl⟩⟩;refine ⟨_,rfl,?_⟩))
 go_loopg [3] k (fun kq v3 w'=>∃ (cQ:Int),v3=.int .i64 cQ∧af (mB.l0 kq a0 cQ=some r)∧af (kq≤k)∧iV w w')
 case atStart=>exact ⟨(2),rs,H',⟨Nat.le_refl _⟩,dW⟩
 case round =>
  clear H'
  obtain ⟨cQ,rfl,HA,as3,⟨m1,rfl⟩⟩:=hrel
  cases gk with
  | zero=>exact absurd HA.z (by simp [mB.l0])
  | succ k1 =>
   have H:=HA.z
   clear HA
   simp only [mB.l0] at H
   replace H:=iC H;obtain ⟨gI,H⟩|⟨gI,H⟩:=H
   case inl =>
    obtain rfl:=Option.some.inj H
    go_wp2
    go_ret
    exact ⟨rs,dW⟩
   by_cases c5:cQ=0
   case neg =>
    rw [if_neg c5] at H
    have gJ:=beq_eq_false_iff_ne.mpr c5
    have rA:=bne_iff_ne.mpr c5
    replace H:=iE H;obtain ⟨c6,iP,mY,H⟩|⟨iP,mY,H⟩:=H
    case inl =>
     have H':=k0 H
     clear H
     go_wp2
     go_roundg k1
     case measure=>have:=as3.z;omega
     case rel=>exact ⟨(wrap64 (cQ+1)),rs,H',⟨by have:=as3.z;omega⟩,dW⟩
    obtain rfl:=Option.some.inj H
    go_wp2
    go_ret
    exact ⟨rs,dW⟩
   rw [if_pos c5] at H
   exact absurd H (by simp)
/-! ### F81: function 81 -/
def mU.l0 : Nat → Int → List Int → Int → Option (Int)
 | 0,_,_,_=>none
 | k+1,x0,x2,x7=>if x7 < (x2.length:Int) then (if 0≤x7 then ((eY.f (rd x2 x7) 0 (wrap64 (x0 - 1))).bind fun t105=>(if t105=true then (mU.l0 k x0 x2 (wrap64 (x7+1))) else (some 2))) else (none)) else (some 0)
def mU.f (k:Nat) (a0:Int) (aE:Int) (az:List (List Int)) (l2:List Int):Option (Int):=(dR.f k aE az).bind fun t102=>(if t102=true then ((mB.f k a0).bind fun t103=>(if t103=true then (if (l2.length:Int)=(wrap64 (2 * (az.length:Int))) then (mU.l0 k a0 l2 0) else (some 2)) else (some 2))) else (some 1))
theorem mU.calls (k : Nat) (a0 : Int) (aE : Int) (atb : Option Addr) (atc : Nat) (az : List (List Int)) (A2 : Option Addr) (c2 : Nat) (l2 : List Int) (r : Int) (w : World) (iB : Kd.C (Kd.slice 2 (Kd.int .i64)) w atb az.length az) (iz : az.length ≤ atc) (atQ : Kd.C (Kd.int .i64) w A2 l2.length l2) (at4 : l2.length ≤ c2) (h : mU.f k a0 aE az l2 = some r) :
  Calls Try.prog 81 #[.int .i64 a0,.agg #[.int .i64 aE,.slice atb az.length atc],.slice A2 l2.length c2] w fun e w'=>e=.returned (.int .i64 r)∧Below w.heap.size w w':=by
 have gV:=Try.underlying26
 have ep:=k0 iB
 have eo:=k0 iz
 clear iB iz
 have iX:=k0 atQ
 have atO:=k0 at4
 clear atQ at4
 have HB:=k0 (Below.refl w.heap.size w)
 unfold mU.f at h
 have H:=h
 clear h
 replace H:=bS H;obtain ⟨t102,A4,H⟩:=H
 cases t102
 case false =>
  replace H:=iF H
  obtain rfl:=Option.some.inj H
  go_enter Try.func81,Try.ntmps81
  go_wp2_with (first|(refine aX (N:=4) rfl ?_;(try (refine at2 (by rfl) ?_;dsimp only));refine dL 4 #[.int .i64 aE,.slice atb az.length atc] 26 bl ?_;intro ay ZF aa bn HB;have cG:=bn;obtain ⟨_,_,_,_⟩:=as9 aa)|(refine aT (f:=68) rfl ?_;refine gC (some 10) Try.func68 #[.agg #[.int .i64 aE,.slice atb az.length atc]] ?_;(with_reducible refine (dR.calls k aE _ _ az false _ ?av ?ax A4.z).mono ?_);(case av=>exact aC (Kd.bL ep.z HB.z));(case ax=>exact eo.z);rintro e Ff ⟨rfl,hb⟩;refine ⟨_,rfl,?_⟩;replace aa:=kB aa hb;replace HB:=bW hb))
  go_ret
  exact ⟨eR,bl⟩
 replace H:=iT H
 replace H:=bS H;obtain ⟨t103,A6,H⟩:=H
 cases t103
 case false =>
  replace H:=iF H
  obtain rfl:=Option.some.inj H
  go_enter Try.func81,Try.ntmps81
  go_wp2_with (first|(refine aX (N:=4) rfl ?_;(try (refine at2 (by rfl) ?_;dsimp only));refine dL 4 #[.int .i64 aE,.slice atb az.length atc] 26 bl ?_;intro ay Lw aa bn HB;have cG:=bn;obtain ⟨_,_,_,_⟩:=as9 aa)|(refine aT (f:=68) rfl ?_;refine gC (some 10) Try.func68 #[.agg #[.int .i64 aE,.slice atb az.length atc]] ?_;(with_reducible refine (dR.calls k aE _ _ az true _ ?av ?ax A4.z).mono ?_);(case av=>exact aC (Kd.bL ep.z HB.z));(case ax=>exact eo.z);rintro e RB ⟨rfl,hb⟩;refine ⟨_,rfl,?_⟩;replace aa:=kB aa hb;replace HB:=bW hb)|(refine aT (f:=119) rfl ?_;refine gC (some 14) Try.func119 #[.int .i64 a0] ?_;(with_reducible refine (mB.calls k a0 false _ A6.z).mono ?_);rintro e w' ⟨rfl,⟨nd,rfl⟩⟩;refine ⟨_,rfl,?_⟩))
  go_ret
  exact ⟨eR,bl⟩
 replace H:=iT H
 replace H:=iE H;obtain ⟨c8,kX,tj,H⟩|⟨kX,tj,H⟩:=H
 case inl =>
  obtain rfl:=Option.some.inj H
  go_enter Try.func81,Try.ntmps81
  go_wp2_with (first|(refine aX (N:=4) rfl ?_;(try (refine at2 (by rfl) ?_;dsimp only));refine dL 4 #[.int .i64 aE,.slice atb az.length atc] 26 bl ?_;intro ay yq aa bn HB;have cG:=bn;obtain ⟨_,_,_,_⟩:=as9 aa)|(refine aT (f:=68) rfl ?_;refine gC (some 10) Try.func68 #[.agg #[.int .i64 aE,.slice atb az.length atc]] ?_;(with_reducible refine (dR.calls k aE _ _ az true _ ?av ?ax A4.z).mono ?_);(case av=>exact aC (Kd.bL ep.z HB.z));(case ax=>exact eo.z);rintro e C_ ⟨rfl,hb⟩;refine ⟨_,rfl,?_⟩;replace aa:=kB aa hb;replace HB:=bW hb)|(refine aT (f:=119) rfl ?_;refine gC (some 14) Try.func119 #[.int .i64 a0] ?_;(with_reducible refine (mB.calls k a0 true _ A6.z).mono ?_);rintro e w' ⟨rfl,⟨nd,rfl⟩⟩;refine ⟨_,rfl,?_⟩;obtain ⟨_,_,_,_⟩:=as9 aa))
  go_ret
  exact ⟨eR,bl⟩
 have H':=k0 H
 clear H
 go_enter Try.func81,Try.ntmps81
 go_wp2_with (first|(refine aX (N:=4) rfl ?_;(try (refine at2 (by rfl) ?_;dsimp only));refine dL 4 #[.int .i64 aE,.slice atb az.length atc] 26 bl ?_;intro ay w9 aa bn HB;have cG:=bn;obtain ⟨_,_,_,_⟩:=as9 aa)|(refine aT (f:=68) rfl ?_;refine gC (some 10) Try.func68 #[.agg #[.int .i64 aE,.slice atb az.length atc]] ?_;(with_reducible refine (dR.calls k aE _ _ az true _ ?av ?ax A4.z).mono ?_);(case av=>exact aC (Kd.bL ep.z HB.z));(case ax=>exact eo.z);rintro e Bo ⟨rfl,hb⟩;refine ⟨_,rfl,?_⟩;replace aa:=kB aa hb;replace HB:=bW hb)|(refine aT (f:=119) rfl ?_;refine gC (some 14) Try.func119 #[.int .i64 a0] ?_;(with_reducible refine (mB.calls k a0 true _ A6.z).mono ?_);rintro e w' ⟨rfl,⟨nd,rfl⟩⟩;refine ⟨_,rfl,?_⟩;obtain ⟨_,_,_,_⟩:=as9 aa))
 go_loopg [7] k (fun kq v7 w'=>∃ (ef:Int),v7=.int .i64 ef∧af (mU.l0 kq a0 l2 ef=some r)∧af (kq≤k)∧af (w'.heap[ay]?=some (sO aE atb az atc 26))∧af (Below w.heap.size w w'))
 case atStart=>exact ⟨(0),rs,H',⟨Nat.le_refl _⟩,⟨bk⟩,⟨bl⟩⟩
 case round =>
  clear H'
  obtain ⟨ef,rfl,HA,as3,aa,HB⟩:=hrel
  cases gk with
  | zero=>exact absurd HA.z (by simp [mU.l0])
  | succ k1 =>
   have H:=HA.z
   clear HA
   simp only [mU.l0] at H
   replace H:=iC H;obtain ⟨qF,H⟩|⟨qF,H⟩:=H
   case inl =>
    obtain rfl:=Option.some.inj H
    go_wp2
    go_ret
    exact ⟨eR,bl⟩
   replace H:=iS H;obtain ⟨c14,H⟩:=H
   have ov:=decide_eq_true c14
   clear c14
   replace H:=bS H;obtain ⟨t105,Dp,H⟩:=H
   cases t105
   case false =>
    replace H:=iF H
    obtain rfl:=Option.some.inj H
    obtain ⟨cC,cD⟩:=iN ef (l2.length:Int)
    obtain ⟨jE,e104,cM⟩:=Kd.bK iX.z ef cC cD
    cases e104
    replace cM:=hbc HB cM
    replace cC:=eT cC
    replace cD:=eT cD
    go_wp2_with (first|(refine aT (f:=61) rfl ?_;refine gC (some 37) Try.func61 #[.int .i64 (rd l2 ef),.int .i64 0,.int .i64 (wrap64 (a0 - 1))] ?_;(with_reducible refine (eY.calls (rd l2 ef) 0 (wrap64 (a0 - 1)) false _ Dp.z).mono ?_);rintro e w' ⟨rfl,⟨nd,rfl⟩⟩;refine ⟨_,rfl,?_⟩))
    go_ret
    exact ⟨eR,bl⟩
   replace H:=iT H
   have H':=k0 H
   clear H
   obtain ⟨cC,cD⟩:=iN ef (l2.length:Int)
   obtain ⟨jE,e104,cM⟩:=Kd.bK iX.z ef cC cD
   cases e104
   replace cM:=hbc HB cM
   replace cC:=eT cC
   replace cD:=eT cD
   go_wp2_with (first|(refine aT (f:=61) rfl ?_;refine gC (some 37) Try.func61 #[.int .i64 (rd l2 ef),.int .i64 0,.int .i64 (wrap64 (a0 - 1))] ?_;(with_reducible refine (eY.calls (rd l2 ef) 0 (wrap64 (a0 - 1)) true _ Dp.z).mono ?_);rintro e w' ⟨rfl,⟨nd,rfl⟩⟩;refine ⟨_,rfl,?_⟩))
   go_roundg k1
   case measure=>have:=as3.z;omega
   case rel=>exact ⟨(wrap64 (ef+1)),rs,H',⟨by have:=as3.z;omega⟩,⟨bk⟩,⟨bl⟩⟩
/-! ### F112: function 112 -/
def qt.l0 : Nat → List Int → Int → Option (List Int)
 | 0,_,_=>none
 | k+1,x0,x3=>if x3 > 0 then (if 0≤(wrap64 (x3 - 1)) then (if (wrap64 (x3 - 1)) < (x0.length:Int) then (if (rd x0 (wrap64 (x3 - 1)))=0 then (qt.l0 k x0 (wrap64 (x3 - 1))) else (if 0≤x3 then (if x3≤(x0.length:Int) then ((rT.f (x0.take (x3:Int).toNat)).bind fun t103=>(some t103)) else (none)) else (none))) else (none)) else (none)) else (if 0≤x3 then (if x3≤(x0.length:Int) then ((rT.f (x0.take (x3:Int).toNat)).bind fun t107=>(some t107)) else (none)) else (none))
def qt.f (k:Nat) (l0:List Int):Option (List Int):=qt.l0 k l0 (l0.length:Int)
theorem qt.calls (k : Nat) (A0 : Option Addr) (c0 : Nat) (l0 : List Int) (r : List Int) (w : World) (bX : Kd.C (Kd.int .i64) w A0 l0.length l0) (hc0 : l0.length ≤ c0) (h : qt.f k l0 = some r) :
  Calls Try.prog 112 #[.slice A0 l0.length c0] w fun e w'=>∃ ati:Value,e=.returned (ati)∧Kd.R (Kd.int .i64) 2 w' w.heap.size (fun _=>True) ati r∧Below w.heap.size w w':=by
 have dh:=k0 bX
 have gG:=k0 hc0
 clear bX hc0
 have HB:=k0 (Below.refl w.heap.size w)
 unfold qt.f at h
 have H:=h
 clear h
 have H':=k0 H
 clear H
 go_enter Try.func112,Try.ntmps112
 go_wp2
 go_loopg [3] k (fun kq v3 w'=>∃ (cQ:Int),v3=.int .i64 cQ∧af (qt.l0 kq l0 cQ=some r)∧af (kq≤k)∧af (Below w.heap.size w w'))
 case atStart=>exact ⟨((l0.length:Int)),rs,H',⟨Nat.le_refl _⟩,⟨bl⟩⟩
 case round =>
  clear H'
  obtain ⟨cQ,rfl,HA,as3,HB⟩:=hrel
  cases gk with
  | zero=>exact absurd HA.z (by simp [qt.l0])
  | succ k1 =>
   have H:=HA.z
   clear HA
   simp only [qt.l0] at H
   replace H:=iC H;obtain ⟨Cg,H⟩|⟨Cg,H⟩:=H
   case inl =>
    replace H:=iS H;obtain ⟨c12,H⟩:=H
    have pg:=eq_true c12
    have Ek:=decide_eq_true c12
    clear c12
    replace H:=iS H;obtain ⟨c13,H⟩:=H
    have qF:=eq_true c13
    have Us:=decide_eq_true c13
    clear c13
    replace H:=bS H;obtain ⟨t107,Fo,H⟩:=H
    obtain rfl:=Option.some.inj H
    obtain ⟨i015,Xc,_,XZ,_⟩:=info_parts ju
    obtain ⟨ao3,hA15,VX⟩:=YZ (P:=Try.prog) (Value.int .i64) 0 29 2 .i64 Try.underlying29 Xc XZ A0 c0 l0 cQ oD oD gG.z
    have aby:=k0 (Kd.L_ (h1:=fun _=>rfl) (hA15 _ (Kd.Lf dh.z)))
    have DC:=k0 VX
    clear hA15 VX Xc XZ
    go_wp2_with (first|(refine aT (f:=105) rfl ?_;refine GK (some 21) rfl rfl Try.func105 (by kernel_rfl) rfl #[.slice A0 (l0.take (cQ:Int).toNat).length c0] rfl (by (try simp only [List.map_toArray,List.map_cons,List.map_nil]);first|done|(rw [show (l0.take (cQ:Int).toNat).length=cQ.toNat from (by rw [List.length_take];have h_:(cQ:Int)≤(l0.length:Int):=oD;omega)]<;>rfl)|rfl|(simp only [List.length_drop,List.length_take];rfl)) ?_;(with_reducible refine (rT.calls _ _ (l0.take (cQ:Int).toNat) t107 _ ?av ?ax Fo.z).mono ?_);(case av=>exact aC (Kd.bL aby.z HB.z));(case ax=>exact DC.z);rintro e yp ⟨xk,rfl,as2,hb⟩;refine ⟨_,rfl,?_⟩;have fj:=k0 (Kd.cg as2 (as8 bl));replace HB:=bW hb))
    go_ret
    exact ⟨_,eR,aR fj.z,bl⟩
   obtain ⟨bE,at7⟩:∃ j_:Int,(wrap64 (cQ - 1))=j_:=⟨_,rfl⟩
   replace H:(if 0≤(bE) then (if (bE) < (l0.length:Int) then (if (rd l0 (bE))=0 then (qt.l0 k1 l0 bE) else (if 0≤cQ then (if cQ≤(l0.length:Int) then ((rT.f (l0.take (cQ:Int).toNat)).bind fun t103=>(some t103)) else (none)) else (none))) else (none)) else (none))=some r:=by first|(rw [at7] at H;exact H)|(simp only [at7] at H ⊢;exact H)
   have Pv:(IntKind.i64.wrap (cQ - 1))=bE:=(bp _).trans at7
   replace H:=iS H;obtain ⟨c4,H⟩:=H
   have gI:=decide_eq_true c4
   clear c4
   replace H:=iS H;obtain ⟨c5,H⟩:=H
   have gJ:=decide_eq_true c5
   clear c5
   replace H:=iE H;obtain ⟨c6,iP,mY,H⟩|⟨iP,mY,H⟩:=H
   case inl =>
    replace H:=iS H;obtain ⟨c7,H⟩:=H
    have pn:=eq_true c7
    have au5:=decide_eq_true c7
    clear c7
    replace H:=iS H;obtain ⟨c8,H⟩:=H
    have kX:=eq_true c8
    have tj:=decide_eq_true c8
    clear c8
    replace H:=bS H;obtain ⟨t103,A9,H⟩:=H
    obtain rfl:=Option.some.inj H
    have atK:0≤((bE):Int):=oD
    have atL:(bE) < (l0.length:Int):=oD
    obtain ⟨ry,e101,pJ⟩:=Kd.bK dh.z (bE) atK atL
    cases e101
    replace pJ:=hbc HB pJ
    replace atK:=eT atK
    replace atL:=eT atL
    obtain ⟨i010,G6,_,Ks,_⟩:=info_parts ju
    obtain ⟨WD,hA10,GM⟩:=YZ (P:=Try.prog) (Value.int .i64) 0 29 2 .i64 Try.underlying29 G6 Ks (some ry) c0 l0 cQ oD oD gG.z
    have abw:=k0 (Kd.L_ (h1:=fun _=>rfl) (hA10 _ (Kd.Lf dh.z)))
    have aa5:=k0 GM
    clear hA10 GM G6 Ks
    go_wp2_with (first|(refine aT (f:=105) rfl ?_;refine GK (some 21) rfl rfl Try.func105 (by kernel_rfl) rfl #[.slice (some ry) (l0.take (cQ:Int).toNat).length c0] rfl (by (try simp only [List.map_toArray,List.map_cons,List.map_nil]);first|done|(rw [show (l0.take (cQ:Int).toNat).length=cQ.toNat from (by rw [List.length_take];have h_:(cQ:Int)≤(l0.length:Int):=oD;omega)]<;>rfl)|rfl|(simp only [List.length_drop,List.length_take];rfl)) ?_;(with_reducible refine (rT.calls _ _ (l0.take (cQ:Int).toNat) t103 _ ?av ?ax A9.z).mono ?_);(case av=>exact aC (Kd.bL abw.z HB.z));(case ax=>exact aa5.z);rintro e Bo ⟨xj,rfl,as2,hb⟩;refine ⟨_,rfl,?_⟩;have jf:=k0 (Kd.cg as2 (as8 bl));replace HB:=bW hb))
    go_ret
    exact ⟨_,by first|rfl|(simp [kG,kH]<;>rfl)|(simp only [← at7];first|rfl|(simp [kG,kH]<;>rfl))|(simp [*,kG,kH]<;>rfl),aR jf.z,bl⟩
   have H':=k0 H
   clear H
   have atK:0≤((bE):Int):=oD
   have atL:(bE) < (l0.length:Int):=oD
   obtain ⟨ry,e101,pJ⟩:=Kd.bK dh.z (bE) atK atL
   cases e101
   replace pJ:=hbc HB pJ
   replace atK:=eT atK
   replace atL:=eT atL
   go_wp2
   first|go_roundg k1|(simp only [← at7];go_roundg k1)
   case measure=>have:=as3.z;omega
   case rel=>exact ⟨(bE),(by first|rfl|(simp;done)|(simp only [← at7]<;>(first|rfl|simp))|(simp [*];done)),(by first|exact H'|(rw [at7];exact H')),⟨by have:=as3.z;omega⟩,⟨bl⟩⟩
/-! ### F120: function 120 -/
def xL.f (a0:Int) (a1:Int):Option (Int):=if a0=0 then (none) else (some (Int.tmod (wrap64 ((Int.tmod a1 a0)+a0)) a0))
theorem xL.calls (a0 : Int) (a1 : Int) (r : Int) (w : World) (h : xL.f a0 a1 = some r) :
  Calls Try.prog 120 #[.int .i64 a0,.int .i64 a1] w fun e w'=>e=.returned (.int .i64 r)∧iV w w':=by
 unfold xL.f at h
 have H:=h
 clear h
 by_cases c3:a0=0
 case neg =>
  rw [if_neg c3] at H
  have lC:=beq_eq_false_iff_ne.mpr c3
  have vU:=bne_iff_ne.mpr c3
  obtain rfl:=Option.some.inj H
  go_enter Try.func120,Try.ntmps120
  go_wp2
  go_ret
  exact ⟨rs,dW⟩
 rw [if_pos c3] at H
 exact absurd H (by simp)
end Go.Proofs.Ytapnggjaeehpdaa.B
/- Set with little white space, by a program. -/
