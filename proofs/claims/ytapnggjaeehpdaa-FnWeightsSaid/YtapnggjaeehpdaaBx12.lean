/- Go's calls come to what the Lean functions say. Condition of each: that the Lean function answers. -/
import Derived.Test.YtapnggjaeehpdaaBx0
import Derived.Test.YtapnggjaeehpdaaBx8
namespace Go.Proofs.Ytapnggjaeehpdaa.B
open Go.RowKit Go.Proofs.bz.dI Go.Proofs.bz.iY Go.Proofs.bz.jn
attribute [local go_sem] max2_int min2_int max_two min_two max_three min_three max_four min_four
set_option linter.unusedVariables false
set_option linter.unusedSimpArgs false
set_option maxHeartbeats 8000000
set_option maxRecDepth 100000
/-! ### F111: function 111 -/
def vw.f (as0:Int) (ak:List (List Int)) (a1:Int):Option (Int × Int):=if 0≤(wrap64 (Int.tdiv a1 2)) then (if (wrap64 (Int.tdiv a1 2)) < (ak.length:Int) then (if 0≤(Int.tmod a1 2) then (if (Int.tmod a1 2) < ((ai ak (wrap64 (Int.tdiv a1 2))).length:Int) then (if 0≤(wrap64 (1 - (Int.tmod a1 2))) then (if (wrap64 (1 - (Int.tmod a1 2))) < ((ai ak (wrap64 (Int.tdiv a1 2))).length:Int) then (some (rd (ai ak (wrap64 (Int.tdiv a1 2))) (Int.tmod a1 2),rd (ai ak (wrap64 (Int.tdiv a1 2))) (wrap64 (1 - (Int.tmod a1 2))))) else (none)) else (none)) else (none)) else (none)) else (none)) else (none)
theorem vw.calls (as0 : Int) (bu : Option Addr) (bq : Nat) (ak : List (List Int)) (a1 : Int) (r1 : Int) (r2 : Int) (w : World) (dy : Kd.C (Kd.slice 2 (Kd.int .i64)) w bu ak.length ak) (ey : ak.length ≤ bq) (h : vw.f as0 ak a1 = some (r1, r2)) :
  Calls Try.prog 111 #[.agg #[.int .i64 as0,.slice bu ak.length bq],.int .i64 a1] w fun e w'=>e=.returned (.tuple #[.int .i64 r1,.int .i64 r2])∧Below w.heap.size w w':=by
 have gV:=Try.underlying26
 have dJ:=k0 dy
 have iK:=k0 ey
 clear dy ey
 have HB:=k0 (Below.refl w.heap.size w)
 unfold vw.f at h
 have H:=h
 clear h
 obtain ⟨bE,at7⟩:∃ j_:Int,(wrap64 (Int.tdiv a1 2))=j_:=⟨_,rfl⟩
 replace H:(if 0≤(bE) then (if (bE) < (ak.length:Int) then (if 0≤(Int.tmod a1 2) then (if (Int.tmod a1 2) < ((ai ak (bE)).length:Int) then (if 0≤(wrap64 (1 - (Int.tmod a1 2))) then (if (wrap64 (1 - (Int.tmod a1 2))) < ((ai ak (bE)).length:Int) then (some (rd (ai ak (bE)) (Int.tmod a1 2),rd (ai ak (bE)) (wrap64 (1 - (Int.tmod a1 2))))) else (none)) else (none)) else (none)) else (none)) else (none)) else (none))=some (r1,r2):=by first|(rw [at7] at H;exact H)|(simp only [at7] at H ⊢;exact H)
 have Pv:(IntKind.i64.wrap (Int.tdiv a1 2))=bE:=(bp _).trans at7
 replace H:=iS H;obtain ⟨c4,H⟩:=H
 have gI:=decide_eq_true c4
 clear c4
 replace H:=iS H;obtain ⟨c5,H⟩:=H
 have gJ:=decide_eq_true c5
 clear c5
 obtain ⟨pM,Pw⟩:∃ j_:Int,(Int.tmod a1 2)=j_:=⟨_,rfl⟩
 replace H:(if 0≤(pM) then (if (pM) < ((ai ak (bE)).length:Int) then (if 0≤(wrap64 (1 - (pM))) then (if (wrap64 (1 - (pM))) < ((ai ak (bE)).length:Int) then (some (rd (ai ak (bE)) (pM),rd (ai ak (bE)) (wrap64 (1 - (pM))))) else (none)) else (none)) else (none)) else (none))=some (r1,r2):=by first|(rw [Pw] at H;exact H)|(simp only [Pw] at H ⊢;exact H)
 replace H:=iS H;obtain ⟨c7,H⟩:=H
 have pn:=decide_eq_true c7
 clear c7
 replace H:=iS H;obtain ⟨c8,H⟩:=H
 have kX:=decide_eq_true c8
 clear c8
 obtain ⟨tL,Kf⟩:∃ j_:Int,(wrap64 (1 - (pM)))=j_:=⟨_,rfl⟩
 replace H:(if 0≤(tL) then (if (tL) < ((ai ak (bE)).length:Int) then (some (rd (ai ak (bE)) (pM),rd (ai ak (bE)) (tL))) else (none)) else (none))=some (r1,r2):=by first|(rw [Kf] at H;exact H)|(simp only [Kf] at H ⊢;exact H)
 have aqm:(IntKind.i64.wrap (1 - (pM)))=tL:=(bp _).trans Kf
 replace H:=iS H;obtain ⟨c10,H⟩:=H
 have iw:=decide_eq_true c10
 clear c10
 replace H:=iS H;obtain ⟨c11,H⟩:=H
 have kW:=decide_eq_true c11
 clear c11
 obtain ⟨rfl,rfl⟩:=mT H
 go_enter Try.func111,Try.ntmps111
 go_wp2_with (first|(refine aX (N:=2) rfl ?_;refine dL 2 #[.int .i64 as0,.slice bu ak.length bq] 26 bl ?_;intro ay auL aa bn HB;have cG:=bn;obtain ⟨WE,WG,WV,WW⟩:=as9 aa;have cW:0≤((bE):Int):=oD;have cX:(bE) < (ak.length:Int):=oD;obtain ⟨lA,zM,Ak,e102,eP,kJ,kI⟩:=b8 dJ.z (bE) cW cX;cases e102;replace eP:=hbc HB eP;have atY:=k0 kI;have ava:=k0 kJ;clear kI kJ;replace cW:=eT cW;replace cX:=eT cX;have d_:0≤((pM):Int):=oD;have ec:(pM) < ((ai ak (bE)).length:Int):=oD;obtain ⟨lB,e103,eE⟩:=Kd.bK atY.z (pM) d_ ec;cases e103;replace eE:=hbc HB eE;replace d_:=eT d_;replace ec:=eT ec;have cC:0≤((tL):Int):=oD;have cD:(tL) < ((ai ak (bE)).length:Int):=oD;obtain ⟨jE,e104,cM⟩:=Kd.bK atY.z (tL) cC cD;obtain rfl:lB=jE:=(by injection e104);replace cM:=hbc HB cM;replace cC:=eT cC;replace cD:=eT cD))
 repeat (go_quiet (first|(refine aX (N:=2) rfl ?_;refine dL 2 #[.int .i64 as0,.slice bu ak.length bq] 26 bl ?_;intro ay auL aa bn HB;have cG:=bn;obtain ⟨WE,WG,WV,WW⟩:=as9 aa;have cW:0≤((bE):Int):=oD;have cX:(bE) < (ak.length:Int):=oD;obtain ⟨lA,zM,Ak,e102,eP,kJ,kI⟩:=b8 dJ.z (bE) cW cX;cases e102;replace eP:=hbc HB eP;have atY:=k0 kI;have ava:=k0 kJ;clear kI kJ;replace cW:=eT cW;replace cX:=eT cX;have d_:0≤((pM):Int):=oD;have ec:(pM) < ((ai ak (bE)).length:Int):=oD;obtain ⟨lB,e103,eE⟩:=Kd.bK atY.z (pM) d_ ec;cases e103;replace eE:=hbc HB eE;replace d_:=eT d_;replace ec:=eT ec;have cC:0≤((tL):Int):=oD;have cD:(tL) < ((ai ak (bE)).length:Int):=oD;obtain ⟨jE,e104,cM⟩:=Kd.bK atY.z (tL) cC cD;obtain rfl:lB=jE:=(by injection e104);replace cM:=hbc HB cM;replace cC:=eT cC;replace cD:=eT cD));try go_wp2_with (first|(refine aX (N:=2) rfl ?_;refine dL 2 #[.int .i64 as0,.slice bu ak.length bq] 26 bl ?_;intro ay auL aa bn HB;have cG:=bn;obtain ⟨WE,WG,WV,WW⟩:=as9 aa;have cW:0≤((bE):Int):=oD;have cX:(bE) < (ak.length:Int):=oD;obtain ⟨lA,zM,Ak,e102,eP,kJ,kI⟩:=b8 dJ.z (bE) cW cX;cases e102;replace eP:=hbc HB eP;have atY:=k0 kI;have ava:=k0 kJ;clear kI kJ;replace cW:=eT cW;replace cX:=eT cX;have d_:0≤((pM):Int):=oD;have ec:(pM) < ((ai ak (bE)).length:Int):=oD;obtain ⟨lB,e103,eE⟩:=Kd.bK atY.z (pM) d_ ec;cases e103;replace eE:=hbc HB eE;replace d_:=eT d_;replace ec:=eT ec;have cC:0≤((tL):Int):=oD;have cD:(tL) < ((ai ak (bE)).length:Int):=oD;obtain ⟨jE,e104,cM⟩:=Kd.bK atY.z (tL) cC cD;obtain rfl:lB=jE:=(by injection e104);replace cM:=hbc HB cM;replace cC:=eT cC;replace cD:=eT cD)))
 go_ret2
 exact ⟨by first|rfl|(simp [kG,kH]<;>rfl)|(simp only [← at7,← Pw,← Kf];first|rfl|(simp [kG,kH]<;>rfl))|(simp [*,kG,kH]<;>rfl),bl⟩
/-! ### F122: function 122 -/
def lR.l0 : Nat → Int → List (List Int) → Int → Int → Option ((List (List Int)))
 | 0,_,_,_,_=>none
 | k+1,x0,x3,x5,x6=>if x6 < x5 then (if 0≤x0 then (if (x0:Int).toNat≤35184372088832 then (if x3.length < 5864062014805 then (lR.l0 k x0 (x3 ++ [(List.replicate (x0:Int).toNat 0)]) x5 (wrap64 (x6+1))) else (none)) else (none)) else (none)) else (some x3)
def lR.f (k:Nat) (a0:Int):Option ((List (List Int))):=lR.l0 k a0 (([]:List (List Int))) a0 0
theorem lR.calls (k : Nat) (a0 : Int) (r : List (List Int)) (w : World) (h : lR.f k a0 = some r) :
  Calls Try.prog 122 #[.int .i64 a0] w fun e w'=>∃ ati:Value,e=.returned (ati)∧Kd.S (Kd.slice 2 (Kd.int .i64)) 29 w' w.heap.size (fun _=>True) ati r∧Below w.heap.size w w':=by
 have HB:=k0 (Below.refl w.heap.size w)
 unfold lR.f at h
 have H:=h
 clear h
 obtain ⟨atN,gH⟩:=nY (([]:List (List Int)):List (List Int))
 replace H:(lR.l0 k a0 atN a0 0)=some r:=rH gH.z H
 have H':=k0 H
 clear H
 go_enter Try.func122,Try.ntmps122
 go_wp2_with (first|(refine aX (N:=4) rfl ?_;refine Kd.Eb (Kd.slice 2 (Kd.int .i64)) _ 29 ?hg (N:=4) ?hd (xs:=([]:List (List Int))) (inner:=[]) (ok:=fun _=>True) (cm:=fun _=>True) ?hr ?hp (fun _ hk=>hk) trivial (Below.refl _ _) (Nat.le_refl _) (by simp) ?_;(case hd=>rfl);(case hg=>rfl);(case hr=>first|(go_simp;done)|(go_simp;rfl));(case hp=>exact (aJ.none _ _));intro nO w2 Hu hb bR atf;clear bR atf;(first|rw [← gH.z] at Hu|(simp only [Int.reduceToNat] at Hu;rw [← gH.z] at Hu));have eV:=k0 (Kd.jD Hu (as8 bl));replace HB:=bW hb;clear hb Hu))
 go_loopg [3,6] k (fun kq v3 v6 w'=>∃ (cQ:List (List Int)) (as1:Int),v6=.int .i64 as1∧af (lR.l0 kq a0 cQ a0 as1=some r)∧af (kq≤k)∧af (Kd.S (Kd.slice 2 (Kd.int .i64)) 29 w' w.heap.size (fun _=>True) v3 cQ)∧af (Below w.heap.size w w'))
 case atStart=>exact ⟨(atN),(0),rs,H',⟨Nat.le_refl _⟩,⟨aS (eV.z)⟩,⟨bl⟩⟩
 case round =>
  clear H'
  obtain ⟨cQ,as1,rfl,HA,as3,cr,HB⟩:=hrel
  cases gk with
  | zero=>exact absurd HA.z (by simp [lR.l0])
  | succ k1 =>
   have H:=HA.z
   clear HA
   simp only [lR.l0] at H
   replace H:=iC H;obtain ⟨gI,H⟩|⟨gI,H⟩:=H
   case inl =>
    obtain rfl:=Option.some.inj H
    go_wp2
    go_ret
    exact ⟨_,eR,aS cr.z,bl⟩
   replace H:=iS H;obtain ⟨c5,H⟩:=H
   have gJ:=eq_true c5
   have rA:=decide_eq_true c5
   clear c5
   replace H:=iS H;obtain ⟨c6,H⟩:=H
   have iP:=eq_true c6
   have mY:=decide_eq_true c6
   clear c6
   obtain ⟨mA,mW⟩:=nY (List.replicate (a0:Int).toNat 0:List Int)
   replace H:(if cQ.length < 5864062014805 then (lR.l0 k1 a0 (cQ ++ [mA]) a0 (wrap64 (as1+1))) else (none))=some r:=rH mW.z H
   replace H:=iS H;obtain ⟨c7,H⟩:=H
   have ab7:=k0 c7
   clear c7
   obtain ⟨jl,lV⟩:=nY (cQ ++ [mA]:List (List Int))
   replace H:(lR.l0 k1 a0 jl a0 (wrap64 (as1+1)))=some r:=rH lV.z H
   have H':=k0 H
   clear H
   go_wp2_with (first|(refine aX (N:=10) rfl ?_;refine Kd.Jw (Kd.int .i64) _ 2 rfl (N:=10) rfl 29 _ _ rfl a0 rfl rfl Try.underlying29 (.int .i64 0) 8 ju rfl (by decide) (by omega) 0 (ok:=fun _=>True) (cm:=fun _=>True) rfl (fun _ hk=>hk) trivial oD (Nat.le_trans (Nat.mul_le_mul_right _ (oD:a0.toNat≤35184372088832)) (by omega)) (Below.refl _ _) (Nat.le_refl _) ?_;intro qV w8 kj hb bR atf;clear bR atf;(first|rw [← mW.z] at kj|(simp only [Int.reduceToNat] at kj;rw [← mW.z] at kj));replace cr:=kg cr (Kd.bh kj) hb;have dG:=k0 (Kd.cg kj (as8 bl));replace HB:=bW hb;clear hb kj;obtain ⟨gB,gx,rfl⟩:=Kd.b9 dG.z)|((with_reducible refine ji (b:=.append) (xs:=#[.tmp 8,.tmp 11]) rfl ?_);at_builtin;refine Kd.uv (Kd.slice 2 (Kd.int .i64)) (w0:=w) w.heap.size rfl (.tmp 8) (.tmp 11) 24 29 (.slice none 0 0) 24 rfl Try.underlying24 sB rfl (by decide) (by omega) u3 cQ mA [.slice gB mA.length gx] (fun _=>True) (fun k_=>some k_=(.slice gB mA.length gx:Value).ownBlock) rfl rfl ?aP (fun k_ aU=>((Kd.aH (ok':=fun k_=>((fun _=>True)) k_∧some k_ ≠ (u3:Value).ownBlock) (Kd.iZ (dG.z) (Kd.atC cr.z) (by decide)) (fun k_ hk=>⟨trivial,hk.2⟩))).1 k_ aU.symm) ?aF ?aO ?aB ?aS ?aL ?_;(case aP=>exact Kd.ke (Kd.aH (Kd.om rfl (Kd.aH (ok':=fun k_=>((fun _=>True)) k_∧some k_ ≠ (u3:Value).ownBlock) (Kd.iZ (dG.z) (Kd.atC cr.z) (by decide)) (fun k_ hk=>⟨trivial,hk.2⟩))) (fun _ h_=>h_)));(case aB=>exact bl);(case aF=>exact (fun _ _=>trivial));(case aO=>exact (aS (Kd.bQ cr.z (fun k_ hk=>⟨trivial,fun e_=>hk.2 e_⟩))));(case aS=>exact (as8 bl));(case aL=>have:=ab7.out;omega);intro xk pT ho hb hg a_;rw [← lV.z] at ho;replace HB:=k0 hb;have fj:=k0 ho;clear cr dG;clear ho hb hg a_))
   go_roundg k1
   case measure=>have:=as3.z;omega
   case rel=>exact ⟨(jl),(wrap64 (as1+1)),rs,H',⟨by have:=as3.z;omega⟩,⟨aS (fj.z)⟩,⟨bl⟩⟩
/-! ### F101: function 101 -/
mutual
def jd.l0 : Nat → List (List Int) → Int → Int → Int → List (List Int) → Option ((List (List Int)))
 | 0,_,_,_,_,_=>none
 | k+1,x3,atj,dQ,cn,cF=>if dQ < atj then ((vw.f cn cF dQ).bind fun yV=>((q4.f cn cF).bind fun t109=>(jd.l1 k x3 dQ yV.2 atj dQ (wrap64 (2 * t109)) 0 cn cF))) else (some x3)
def jd.l1 : Nat → List (List Int) → Int → Int → Int → Int → Int → Int → Int → List (List Int) → Option ((List (List Int)))
 | 0,_,_,_,_,_,_,_,_,_=>none
 | k+1,x3,x4,x6,atj,dQ,nS,lg,cn,cF=>if lg < nS then ((vw.f cn cF lg).bind fun ot=>(if ot.1=x6 then (if lg=(Go.bits .xor .i64 x4 1) then (jd.l1 k x3 x4 x6 atj dQ nS (wrap64 (lg+1)) cn cF) else (if 0≤x4 then (if x4 < (x3.length:Int) then (if 0≤lg then (if lg < ((ai x3 x4).length:Int) then (jd.l1 k (x3.set (x4:Int).toNat ((ai x3 x4).set (lg:Int).toNat 1)) x4 x6 atj dQ nS (wrap64 (lg+1)) cn cF) else (none)) else (none)) else (none)) else (none))) else (jd.l1 k x3 x4 x6 atj dQ nS (wrap64 (lg+1)) cn cF))) else (jd.l0 k x3 atj (wrap64 (dQ+1)) cn cF)
end
def jd.f (k:Nat) (as0:Int) (ak:List (List Int)):Option ((List (List Int))):=(q4.f as0 ak).bind fun t102=>((lR.f k (wrap64 (2 * t102))).bind fun t103=>((q4.f as0 ak).bind fun t106=>(jd.l0 k t103 (wrap64 (2 * t106)) 0 as0 ak)))
theorem jd.calls (k : Nat) (as0 : Int) (bu : Option Addr) (bq : Nat) (ak : List (List Int)) (r : List (List Int)) (w : World) (dy : Kd.C (Kd.slice 2 (Kd.int .i64)) w bu ak.length ak) (ey : ak.length ≤ bq) (h : jd.f k as0 ak = some r) :
  Calls Try.prog 101 #[.agg #[.int .i64 as0,.slice bu ak.length bq]] w fun e w'=>∃ ati:Value,e=.returned (ati)∧Kd.S (Kd.slice 2 (Kd.int .i64)) 29 w' w.heap.size (fun _=>True) ati r∧Below w.heap.size w w':=by
 have gV:=Try.underlying26
 have dJ:=k0 dy
 have iK:=k0 ey
 clear dy ey
 have HB:=k0 (Below.refl w.heap.size w)
 unfold jd.f at h
 have H:=h
 clear h
 replace H:=bS H;obtain ⟨t102,A2,H⟩:=H
 replace H:=bS H;obtain ⟨t103,A3,H⟩:=H
 replace H:=bS H;obtain ⟨t106,A4,H⟩:=H
 have H':=k0 H
 clear H
 go_enter Try.func101,Try.ntmps101
 go_wp2_with (first|(refine aX (N:=1) rfl ?_;refine dL 1 #[.int .i64 as0,.slice bu ak.length bq] 26 bl ?_;intro ay w5 aa bn HB;have cG:=bn;obtain ⟨_,_,_,_⟩:=as9 aa)|(refine aT (f:=64) rfl ?_;refine gC (some 11) Try.func64 #[.agg #[.int .i64 as0,.slice bu ak.length bq]] ?_;(with_reducible refine (q4.calls as0 _ _ ak t102 _ ?av ?ax A2.z).mono ?_);(case av=>exact aC (Kd.bL dJ.z HB.z));(case ax=>exact iK.z);rintro e w7 ⟨rfl,hb⟩;refine ⟨_,rfl,?_⟩;replace aa:=kB aa hb;replace HB:=bW hb)|(refine aT (f:=122) rfl ?_;refine gC (some 13) Try.func122 #[.int .i64 (wrap64 (2 * t102))] ?_;(with_reducible refine (lR.calls k (wrap64 (2 * t102)) t103 _ A3.z).mono ?_);rintro e w8 ⟨xj,rfl,as2,hb⟩;refine ⟨_,rfl,?_⟩;have jf:=k0 (Kd.jD as2 (as8 bl));replace aa:=kB aa hb;replace HB:=bW hb;obtain ⟨_,_,_,_⟩:=as9 aa)|(refine aT (f:=64) rfl ?_;refine gC (some 15) Try.func64 #[.agg #[.int .i64 as0,.slice bu ak.length bq]] ?_;(with_reducible refine (q4.calls as0 _ _ ak t106 _ ?av ?ax A4.z).mono ?_);(case av=>exact aC (Kd.bL dJ.z HB.z));(case ax=>exact iK.z);rintro e pT ⟨rfl,hb⟩;refine ⟨_,rfl,?_⟩;replace jf:=nF jf hb;replace aa:=kB aa hb;replace HB:=bW hb))
 go_loopg [17] k (fun kq C9 w'=>∃ (cQ:List (List Int)) (cI:Int),C9=.int .i64 cI∧af (jd.l0 kq cQ (wrap64 (2 * t106)) cI as0 ak=some r)∧af (kq≤k)∧af (Kd.S (Kd.slice 2 (Kd.int .i64)) 29 w' w.heap.size (fun _=>True) xj cQ)∧af (w'.heap[ay]?=some (sO as0 bu ak bq 26))∧af (Below w.heap.size w w'))
 case atStart=>exact ⟨(t103),(0),rs,H',⟨Nat.le_refl _⟩,⟨aS (jf.z)⟩,⟨bk⟩,⟨bl⟩⟩
 case round =>
  clear H'
  obtain ⟨cQ,cI,rfl,HA,as3,cr,aa,HB⟩:=hrel
  cases gk with
  | zero=>exact absurd HA.z (by simp [jd.l0])
  | succ k1 =>
   have H:=HA.z
   clear HA
   simp only [jd.l0] at H
   replace H:=iC H;obtain ⟨kW,H⟩|⟨kW,H⟩:=H
   case inl =>
    obtain rfl:=Option.some.inj H
    go_wp2
    go_ret
    exact ⟨_,eR,aS cr.z,bl⟩
   replace H:=bS H;obtain ⟨⟨t107,t108⟩,zN,H⟩:=H
   dsimp only at H
   replace H:=bS H;obtain ⟨t109,qZ,H⟩:=H
   have H':=k0 H
   clear H
   obtain ⟨_,_,_,_⟩:=as9 aa
   go_wp2_with (first|(refine aT (f:=111) rfl ?_;refine gC (some 23) Try.func111 #[.agg #[.int .i64 as0,.slice bu ak.length bq],.int .i64 cI] ?_;(with_reducible refine (vw.calls as0 _ _ ak cI t107 t108 _ ?av ?ax zN.z).mono ?_);(case av=>exact aC (Kd.bL dJ.z HB.z));(case ax=>exact iK.z);rintro e sF ⟨rfl,hb⟩;refine ⟨_,rfl,?_⟩;replace cr:=nF cr hb;replace aa:=kB aa hb;replace HB:=bW hb;obtain ⟨_,_,_,_⟩:=as9 aa)|(refine aT (f:=64) rfl ?_;refine gC (some 27) Try.func64 #[.agg #[.int .i64 as0,.slice bu ak.length bq]] ?_;(with_reducible refine (q4.calls as0 _ _ ak t109 _ ?av ?ax qZ.z).mono ?_);(case av=>exact aC (Kd.bL dJ.z HB.z));(case ax=>exact iK.z);rintro e yq ⟨rfl,hb⟩;refine ⟨_,rfl,?_⟩;replace cr:=nF cr hb;replace aa:=kB aa hb;replace HB:=bW hb))
   go_loopg [29] k1 (fun kq Ru w'=>∃ (bZ:List (List Int)) (nT:Int),Ru=.int .i64 nT∧af (jd.l1 kq bZ cI t108 (wrap64 (2 * t106)) cI (wrap64 (2 * t109)) nT as0 ak=some r)∧af (kq≤k1)∧af (Kd.S (Kd.slice 2 (Kd.int .i64)) 29 w' w.heap.size (fun _=>True) xj bZ)∧af (w'.heap[ay]?=some (sO as0 bu ak bq 26))∧af (Below w.heap.size w w'))
   case atStart=>exact ⟨(cQ),(0),rs,H',⟨Nat.le_refl _⟩,⟨aS (cr.z)⟩,⟨bk⟩,⟨bl⟩⟩
   case round =>
    clear H'
    obtain ⟨bZ,nT,rfl,HA,bw,cr,aa,HB⟩:=hrel
    cases gk with
    | zero=>exact absurd HA.z (by simp [jd.l1])
    | succ k2 =>
     have H:=HA.z
     clear HA
     simp only [jd.l1] at H
     replace H:=iC H;obtain ⟨au2,H⟩|⟨au2,H⟩:=H
     case inl =>
      have H':=k0 H
      clear H
      go_wp2
      go_roundg k2
      case measure=>have:=as3.z;have:=bw.z;omega
      case rel=>exact ⟨(bZ),(wrap64 (cI+1)),rs,H',⟨by have:=as3.z;have:=bw.z;omega⟩,⟨aS (cr.z)⟩,⟨bk⟩,⟨bl⟩⟩
     replace H:=bS H;obtain ⟨⟨t110,t111⟩,Fp,H⟩:=H
     dsimp only at H
     replace H:=iE H;obtain ⟨c20,au3,ad5,H⟩|⟨au3,ad5,H⟩:=H
     case inl =>
      have H':=k0 H
      clear H
      obtain ⟨_,_,_,_⟩:=as9 aa
      go_wp2_with (first|(refine aT (f:=111) rfl ?_;refine gC (some 35) Try.func111 #[.agg #[.int .i64 as0,.slice bu ak.length bq],.int .i64 nT] ?_;(with_reducible refine (vw.calls as0 _ _ ak nT t110 t111 _ ?av ?ax Fp.z).mono ?_);(case av=>exact aC (Kd.bL dJ.z HB.z));(case ax=>exact iK.z);rintro e RC ⟨rfl,hb⟩;refine ⟨_,rfl,?_⟩;replace cr:=nF cr hb;replace aa:=kB aa hb;replace HB:=bW hb))
      go_roundg k2
      case measure=>have:=as3.z;have:=bw.z;omega
      case rel=>exact ⟨(bZ),(wrap64 (nT+1)),rs,H',⟨by have:=as3.z;have:=bw.z;omega⟩,⟨aS (cr.z)⟩,⟨bk⟩,⟨bl⟩⟩
     replace H:=iE H;obtain ⟨c21,ow,En,H⟩|⟨ow,En,H⟩:=H
     case inl =>
      replace H:=iS H;obtain ⟨c24,H⟩:=H
      have Aq:=decide_eq_true c24
      clear c24
      replace H:=iS H;obtain ⟨c25,H⟩:=H
      have Ce:=decide_eq_true c25
      clear c25
      replace H:=iS H;obtain ⟨c26,H⟩:=H
      have Cf:=decide_eq_true c26
      clear c26
      replace H:=iS H;obtain ⟨c27,H⟩:=H
      have N0:=decide_eq_true c27
      clear c27
      obtain ⟨vr,uq⟩:=nY ((ai bZ cI).set (nT:Int).toNat 1:List Int)
      replace H:(jd.l1 k2 (bZ.set (cI:Int).toNat vr) cI t108 (wrap64 (2 * t106)) cI (wrap64 (2 * t109)) (wrap64 (nT+1)) as0 ak)=some r:=rH uq.z H
      obtain ⟨zL,D3⟩:=nY (bZ.set (cI:Int).toNat vr:List (List Int))
      replace H:(jd.l1 k2 zL cI t108 (wrap64 (2 * t106)) cI (wrap64 (2 * t109)) (wrap64 (nT+1)) as0 ak)=some r:=rH D3.z H
      have H':=k0 H
      clear H
      obtain ⟨_,_,_,_⟩:=as9 aa
      go_wp2_with (first|(refine aT (f:=111) rfl ?_;refine gC (some 35) Try.func111 #[.agg #[.int .i64 as0,.slice bu ak.length bq],.int .i64 nT] ?_;(with_reducible refine (vw.calls as0 _ _ ak nT t110 t111 _ ?av ?ax Fp.z).mono ?_);(case av=>exact aC (Kd.bL dJ.z HB.z));(case ax=>exact iK.z);rintro e Bp ⟨rfl,hb⟩;refine ⟨_,rfl,?_⟩;replace cr:=nF cr hb;replace aa:=kB aa hb;replace HB:=bW hb;obtain ⟨xI,pz,rfl⟩:=Kd.er cr.z;obtain ⟨avl,Be⟩:=iN cI (bZ.length:Int);obtain ⟨T7,alK,adI,e112,EP,Xy,Xg⟩:=b8 (Kd.as4 cr.z).2.2 cI avl Be;cases e112;obtain ⟨an4,agp,af_,Wc⟩:=Kd.att cr.z [] cI avl (by first|exact Be|exact oD|(have e_:=(Kd.as4 cr.z).1;omega));obtain ⟨aso,rfl,Ox⟩:=af_;have Hy:=Wc 0 _ rfl;rw [Nat.add_zero,show ((Kd.slice 2 (Kd.int .i64))).sz=1 from rfl,Nat.mul_one] at Hy;replace Hy:=Option.some.inj (Hy.symm.trans EP);rw [Hy] at Ox;have Jd:=k0 (show Kd.R (Kd.int .i64) 2 _ _ _ _ (ai bZ cI) from Ox);clear Hy Ox;have M1:=k0 EP;clear Wc agp;have anc:=k0 Xg;have amJ:=k0 Xy;clear Xg Xy;replace avl:=eT avl;replace Be:=eT Be;have C2:0≤(nT:Int):=oD;have C5:(nT:Int) < (((ai bZ cI).length:Int):Int):=oD;obtain ⟨Ay,uA,Aw,Gw,OL,aeV,Fz⟩:=Kd.aun Jd.z (by omega);(first|cases Aw|(injection Aw with atd atk dM;(first|subst atd|(injection atd with atd;subst atd));subst dM;clear atk));have Sg:=k0 Gw;have aaR:=k0 Fz;clear Gw OL Fz;obtain ⟨ahA,agX⟩:=Kd.nA 0 Jd.z (nT:Int) C2 C5;replace C2:=eT C2;replace C5:=eT C5;have ahc:(cI:Int) < (bZ.length:Int):=(by have h_:(cI:Int) < ((bZ.length:Int):Int):=oD;first|exact h_|(have e_:=(Kd.as4 cr.z).1;omega)|simpa only [List.length_set,List.length_set] using h_);obtain ⟨ajr,aoh,agE,af1,Wr,PB,V3⟩:=Kd.vP cr.z [] (cI:Int) oD (by first|exact ahc|(have e_:=(Kd.as4 cr.z).1;omega));obtain ⟨asD,rfl,GA⟩:=af1;have Kv:=Wr 0 _ rfl;rw [Nat.add_zero,show ((Kd.slice 2 (Kd.int .i64))).sz=1 from rfl,Nat.mul_one] at Kv;replace Kv:=Option.some.inj (Kv.symm.trans M1.z);subst Kv;clear Wr agE;replace GA:=(show Kd.R (Kd.int .i64) 2 _ _ _ _ (ai bZ cI) from GA);have MD:=Kd.s8 GA (nT:Int) 1)|((with_reducible refine Gv (t:=2) (p:=52) rfl ?_);refine Il (t:=2) (p:=52) (v:=?asO) (w1:=(Bp.setCell ⟨Ay,(nT:Int).toNat,none⟩ (.int .i64 1))) ?hg ?ho ?hn ?hr ?_;(case ho=>rfl);(case hg=>rfl);(case hn=>rfl);(case hr=>first|(go_simp;done)|(go_simp;rfl));intro xo hw;have hg:Bp.grownBy xo (some Ay):=(by rw [hw];exact MD.2);have wQ:Kd.R (Kd.int .i64) 2 xo w.heap.size ajr (.slice (some ⟨Ay,0,none⟩) (ai bZ cI).length adI) vr:=(by rw [hw,uq.z];exact MD.1);have sx:Kd.S (Kd.slice 2 (Kd.int .i64)) 29 xo w.heap.size (fun _=>True) (.slice (some T7) bZ.length pz) zL:=(by rw [D3.z];exact V3 hg (fun k_ e_=>by injection e_ with e_;subst e_;exact GA.1 _ rfl) (Kd.ke wQ));have wC:=Kd.aH wQ PB;clear MD V3;replace cr:=k0 sx;replace aa:=k0 (fL (aB aa.z) hg (Kd.jh Jd.z aa.z (by decide)));replace M1:=k0 (tq hg M1.z (vV (PB _ (GA.1 _ rfl)).2));replace HB:=k0 ((by rw [hw];exact o9 (HB.z) Sg.out:Below w.heap.size w xo));have am1:=k0 wC;have amK:=k0 ((Kd.bD wC).2.1);clear Jd;clear hg hw sx wQ wC PB))
      go_roundg k2
      case measure=>have:=as3.z;have:=bw.z;omega
      case rel=>exact ⟨(zL),(wrap64 (nT+1)),rs,H',⟨by have:=as3.z;have:=bw.z;omega⟩,⟨aS (cr.z)⟩,⟨bk⟩,⟨bl⟩⟩
     have H':=k0 H
     clear H
     obtain ⟨_,_,_,_⟩:=as9 aa
     go_wp2_with (first|(refine aT (f:=111) rfl ?_;refine gC (some 35) Try.func111 #[.agg #[.int .i64 as0,.slice bu ak.length bq],.int .i64 nT] ?_;(with_reducible refine (vw.calls as0 _ _ ak nT t110 t111 _ ?av ?ax Fp.z).mono ?_);(case av=>exact aC (Kd.bL dJ.z HB.z));(case ax=>exact iK.z);rintro e RB ⟨rfl,hb⟩;refine ⟨_,rfl,?_⟩;replace cr:=nF cr hb;replace aa:=kB aa hb;replace HB:=bW hb))
     go_roundg k2
     case measure=>have:=as3.z;have:=bw.z;omega
     case rel=>exact ⟨(bZ),(wrap64 (nT+1)),rs,H',⟨by have:=as3.z;have:=bw.z;omega⟩,⟨aS (cr.z)⟩,⟨bk⟩,⟨bl⟩⟩
/-! ### F80: function 80 -/
mutual
def gw.l0 : Nat → List Int → List (List Int) → Int → Int → Option ((List (List Int)))
 | 0,_,_,_,_=>none
 | k+1,x1,x5,bA,b6=>if b6 < bA then (if 0≤b6 then (if b6 < (x5.length:Int) then (gw.l1 k x1 x5 bA b6 ((ai x5 b6).length:Int) 0) else (none)) else (none)) else (some x5)
def gw.l1 : Nat → List Int → List (List Int) → Int → Int → Int → Int → Option ((List (List Int)))
 | 0,_,_,_,_,_,_=>none
 | k+1,x1,x5,bA,b6,jY,sJ=>if sJ < jY then (if 0≤sJ then (if sJ < ((ai x5 b6).length:Int) then (if sJ < (x1.length:Int) then (gw.l1 k x1 (x5.set (b6:Int).toNat ((ai x5 b6).set (sJ:Int).toNat (wrap64 ((rd (ai x5 b6) sJ) * (rd x1 sJ))))) bA b6 jY (wrap64 (sJ+1))) else (none)) else (none)) else (none)) else (gw.l0 k x1 x5 bA (wrap64 (b6+1)))
end
def gw.f (k:Nat) (as0:Int) (ak:List (List Int)) (l1:List Int):Option ((List (List Int))):=(jd.f k as0 ak).bind fun t102=>(gw.l0 k l1 t102 (t102.length:Int) 0)
def gw.T8:Bool × List (List Nat × List Nat):=(true,[([],[]),([],[]),([0,1],[0,1]),([2],[2]),([],[]),([],[]),([4,5],[4,5]),([6],[6]),([3,7],[3,7]),([0,1,0,1,2,3,4,5,6,7,8],[0,1]),([9,8,0,1,2,3,4,5,6,7,8],[8,9])])
def gw.B8:List Nat:=[0,0,3,7,0,0,48,112,255,511,1023]
theorem gw.Ri:eB .any (opsOf Try.f80 8)=gw.T8:=by kernel_rfl
theorem gw.NL:ie gw.T8.2 gw.B8=true:=by kernel_rfl
theorem gw.calls (k : Nat) (as0 : Int) (bu : Option Addr) (bq : Nat) (ak : List (List Int)) (A1 : Option Addr) (c1 : Nat) (l1 : List Int) (r : List (List Int)) (w : World) (dy : Kd.C (Kd.slice 2 (Kd.int .i64)) w bu ak.length ak) (ey : ak.length ≤ bq) (gl : Kd.C (Kd.int .i64) w A1 l1.length l1) (iQ : l1.length ≤ c1) (h : gw.f k as0 ak l1 = some r) :
  Calls Try.prog 80 #[.agg #[.int .i64 as0,.slice bu ak.length bq],.slice A1 l1.length c1] w fun e w'=>∃ ati:Value,e=.returned (ati)∧Kd.S (Kd.slice 2 (Kd.int .i64)) 29 w' w.heap.size (fun _=>True) ati r∧Below w.heap.size w w':=by
 have gV:=Try.underlying26
 have dJ:=k0 dy
 have iK:=k0 ey
 clear dy ey
 have iM:=k0 gl
 have yE:=k0 iQ
 clear gl iQ
 have HB:=k0 (Below.refl w.heap.size w)
 unfold gw.f at h
 have H:=h
 clear h
 replace H:=bS H;obtain ⟨t102,A3,H⟩:=H
 have H':=k0 H
 clear H
 go_enter Try.func80,Try.ntmps80
 go_wp2_with (first|(refine aX (N:=2) rfl ?_;refine dL 2 #[.int .i64 as0,.slice bu ak.length bq] 26 bl ?_;intro ay w4 aa bn HB;have cG:=bn;obtain ⟨_,_,_,_⟩:=as9 aa)|(refine aT (f:=101) rfl ?_;refine gC (some 10) Try.func101 #[.agg #[.int .i64 as0,.slice bu ak.length bq]] ?_;(with_reducible refine (jd.calls k as0 _ _ ak t102 _ ?av ?ax A3.z).mono ?_);(case av=>exact aC (Kd.bL dJ.z HB.z));(case ax=>exact iK.z);rintro e w6 ⟨zw,rfl,as2,hb⟩;refine ⟨_,rfl,?_⟩;have fh:=k0 (Kd.jD as2 (as8 bl));replace aa:=kB aa hb;replace HB:=bW hb;obtain ⟨L6,Gl,rfl⟩:=Kd.er fh.z))
 go_loopg [13] k (fun kq tQ w'=>∃ (aD:List (List Int)) (dV:Int),tQ=.int .i64 dV∧af (gw.l0 kq l1 aD (t102.length:Int) dV=some r)∧af (kq≤k)∧af (Kd.S (Kd.slice 2 (Kd.int .i64)) 29 w' w.heap.size (fun _=>True) (.slice L6 t102.length Gl) aD)∧af (w'.heap[ay]?=some (sO as0 bu ak bq 26))∧af (Below w.heap.size w w'))
 case atStart=>exact ⟨(t102),(0),rs,H',⟨Nat.le_refl _⟩,⟨aS (fh.z)⟩,⟨bk⟩,⟨bl⟩⟩
 case round =>
  clear H'
  obtain ⟨aD,dV,rfl,HA,as3,aq,aa,HB⟩:=hrel
  have cV:=(Kd.as4 aq.z).1
  rw [cV] at aq
  (try simp only [cV])
  (try simp only [cV] at aa)
  cases gk with
  | zero=>exact absurd HA.z (by simp [gw.l0])
  | succ k1 =>
   have H:=HA.z
   clear HA
   simp only [gw.l0] at H
   by_cases c8:dV < (t102.length:Int)
   case neg =>
    rw [if_neg c8] at H
    have kX:=decide_eq_false c8
    (try simp only [cV] at kX)
    clear c8
    obtain rfl:=Option.some.inj H
    go_wp2
    go_ret
    exact ⟨_,eR,aS aq.z,bl⟩
   rw [if_pos c8] at H
   have kX:=decide_eq_true c8
   (try simp only [cV] at kX)
   clear c8
   replace H:=iS H;obtain ⟨c9,H⟩:=H
   have au6:=decide_eq_true c9
   clear c9
   replace H:=iS H;obtain ⟨c10,H⟩:=H
   have iw:=decide_eq_true c10
   (try simp only [cV] at iw)
   clear c10
   have H':=k0 H
   clear H
   obtain ⟨dm,c_⟩:=iN dV (aD.length:Int)
   obtain ⟨jo,LV,NR,e105,dO,Hj,G7⟩:=b8 (Kd.as4 aq.z).2.2 dV dm c_
   cases e105
   obtain ⟨aeI,O6,OW,GU⟩:=Kd.att aq.z [] dV dm (by first|exact c_|exact oD|(have e_:=(Kd.as4 aq.z).1;omega))
   obtain ⟨ak0,rfl,Cr⟩:=OW
   have wF:=GU 0 _ rfl
   rw [Nat.add_zero,show ((Kd.slice 2 (Kd.int .i64))).sz=1 from rfl,Nat.mul_one] at wF
   replace wF:=Option.some.inj (wF.symm.trans dO)
   rw [wF] at Cr
   have abb:=k0 (show Kd.R (Kd.int .i64) 2 _ _ _ _ (ai aD dV) from Cr)
   clear wF Cr
   have avt:=k0 dO
   clear GU O6
   have abx:=k0 G7
   have aa6:=k0 Hj
   clear G7 Hj
   replace dm:=eT dm
   replace c_:=eT c_
   go_wp2
   generalize G5:(.slice LV (ai aD dV).length NR:Value)=RA
   have yF:=k0 G5
   clear G5
   go_loopg [19] k1 (fun kq Rq w'=>∃ (bg:List (List Int)) (lO:Int),Rq=.int .i64 lO∧af (gw.l1 kq l1 bg (t102.length:Int) dV ((ai aD dV).length:Int) lO=some r)∧af (kq≤k1)∧af (cx w' (.slice (some jo) aD.length Gl) dV RA)∧af (Kd.S (Kd.slice 2 (Kd.int .i64)) 29 w' w.heap.size (fun _=>True) (.slice (some jo) aD.length Gl) bg)∧af (w'.heap[ay]?=some (sO as0 bu ak bq 26))∧af (Below w.heap.size w w'))
   case atStart=>exact ⟨(aD),(0),rs,H',⟨Nat.le_refl _⟩,⟨by (with_reducible repeat (first|apply cx.alloc|apply cx.drewN|apply cx.drew));first|exact ⟨_,_,_,rfl,(by first|exact of_eq_true dm|exact eW atD.out|omega),(by first|exact of_eq_true c_|exact ct atD.out|(have h_:=of_eq_true c_;omega)|(have h_:=ct atD.out;omega)),avt.z⟩|(rw [← yF.out];exact ⟨_,_,_,rfl,(by first|exact of_eq_true dm|exact eW atD.out|omega),(by first|exact of_eq_true c_|exact ct atD.out|(have h_:=of_eq_true c_;omega)|(have h_:=ct atD.out;omega)),avt.z⟩)⟩,⟨by (try simp only [cV]);(with_reducible repeat (first|apply Kd.gQ|apply Kd.atB|apply Kd.dK));exact aq.z⟩,⟨by (try simp only [cV]);exact bk⟩,⟨bl⟩⟩
   case round =>
    clear H'
    obtain ⟨bg,lO,rfl,HA,bw,atD,aq,aa,HB⟩:=hrel
    have at0:=(Kd.as4 aq.z).1
    rw [at0] at aq
    (try simp only [at0])
    (try simp only [at0] at aa)
    cases gk with
    | zero=>exact absurd HA.z (by simp [gw.l1])
    | succ k2 =>
     have H:=HA.z
     clear HA
     simp only [gw.l1] at H
     by_cases c11:lO < ((ai aD dV).length:Int)
     case neg =>
      rw [if_neg c11] at H
      have kW:=decide_eq_false c11
      (try simp only [cV,at0] at kW)
      clear c11
      have H':=k0 H
      clear H
      have PT:decide (0≤dV)=true:=decide_eq_true (eW atD.out)
      have PU:decide (dV < (bg.length:Int))=true:=decide_eq_true (by have h_:=ct atD.out;have e_:=(Kd.as4 aq.z).1;omega)
      obtain ⟨eL,ee⟩:=iN dV (bg.length:Int)
      obtain ⟨oq,IX,JM,e106,fY,sk,sg⟩:=b8 (Kd.as4 aq.z).2.2 dV eL ee
      obtain rfl:jo=oq:=(by injection e106)
      obtain ⟨Oc,CD,Cy,we⟩:=Kd.att aq.z [] dV eL (by first|exact ee|exact oD|(have e_:=(Kd.as4 aq.z).1;omega))
      obtain ⟨Rx,rfl,rB⟩:=Cy
      have aud:=we 0 _ rfl
      rw [Nat.add_zero,show ((Kd.slice 2 (Kd.int .i64))).sz=1 from rfl,Nat.mul_one] at aud
      replace aud:=Option.some.inj (aud.symm.trans fY)
      rw [aud] at rB
      have auu:=k0 (show Kd.R (Kd.int .i64) 2 _ _ _ _ (ai bg dV) from rB)
      clear aud rB
      have aul:=k0 fY
      clear we CD
      have rj:=k0 sg
      have I_:=k0 sk
      clear sg sk
      replace eL:=eT eL
      replace ee:=eT ee
      obtain rfl:=qL atD.out aul.z
      go_wp2
      (try simp only [← cV,← at0])
      first|go_roundg k2|((try (have e_:=yF.out;injection e_ with eu kE atp;subst eu atp));go_roundg k2)
      case measure=>have:=as3.z;have:=bw.z;omega
      case rel=>exact ⟨(bg),(wrap64 (dV+1)),rs,H',⟨by have:=as3.z;have:=bw.z;omega⟩,⟨by (try simp only [cV]);(try simp only [at0]);(with_reducible repeat (first|apply Kd.gQ|apply Kd.atB|apply Kd.dK));exact aq.z⟩,⟨by (try simp only [cV]);(try simp only [at0]);exact bk⟩,⟨bl⟩⟩
     rw [if_pos c11] at H
     have kW:=decide_eq_true c11
     (try simp only [cV,at0] at kW)
     clear c11
     replace H:=iS H;obtain ⟨c12,H⟩:=H
     have pg:=decide_eq_true c12
     clear c12
     replace H:=iS H;obtain ⟨c13,H⟩:=H
     have qF:=decide_eq_true c13
     (try simp only [cV,at0] at qF)
     clear c13
     replace H:=iS H;obtain ⟨c14,H⟩:=H
     have ov:=decide_eq_true c14
     (try simp only [cV,at0] at ov)
     clear c14
     obtain ⟨xB,yN⟩:=nY ((ai bg dV).set (lO:Int).toNat (wrap64 ((rd (ai bg dV) lO) * (rd l1 lO))):List Int)
     replace H:(gw.l1 k2 l1 (bg.set (dV:Int).toNat xB) (t102.length:Int) dV ((ai aD dV).length:Int) (wrap64 (lO+1)))=some r:=rH yN.z H
     obtain ⟨tY,uo⟩:=nY (bg.set (dV:Int).toNat xB:List (List Int))
     replace H:(gw.l1 k2 l1 tY (t102.length:Int) dV ((ai aD dV).length:Int) (wrap64 (lO+1)))=some r:=rH uo.z H
     have H':=k0 H
     clear H
     have PT:decide (0≤dV)=true:=decide_eq_true (eW atD.out)
     have PU:decide (dV < (bg.length:Int))=true:=decide_eq_true (by have h_:=ct atD.out;have e_:=(Kd.as4 aq.z).1;omega)
     obtain ⟨eL,ee⟩:=iN dV (bg.length:Int)
     obtain ⟨oq,IX,JM,e106,fY,sk,sg⟩:=b8 (Kd.as4 aq.z).2.2 dV eL ee
     obtain rfl:jo=oq:=(by injection e106)
     obtain ⟨Oc,CD,Cy,we⟩:=Kd.att aq.z [] dV eL (by first|exact ee|exact oD|(have e_:=(Kd.as4 aq.z).1;omega))
     obtain ⟨Rx,rfl,rB⟩:=Cy
     have aud:=we 0 _ rfl
     rw [Nat.add_zero,show ((Kd.slice 2 (Kd.int .i64))).sz=1 from rfl,Nat.mul_one] at aud
     replace aud:=Option.some.inj (aud.symm.trans fY)
     rw [aud] at rB
     have auu:=k0 (show Kd.R (Kd.int .i64) 2 _ _ _ _ (ai bg dV) from rB)
     clear aud rB
     have aul:=k0 fY
     clear we CD
     have rj:=k0 sg
     have I_:=k0 sk
     clear sg sk
     replace eL:=eT eL
     replace ee:=eT ee
     obtain rfl:=qL atD.out aul.z
     try go_wp2
     replace aq:=k0 (Kd.dK aq.z);replace auu:=k0 (Kd.di auu.z);replace aa:=k0 (dg aa.z);replace rj:=k0 (Kd.ij rj.z);replace aul:=k0 ((show (wr.drew).cell? _=some _ from aul.z));replace HB:=k0 (eZ HB.z)
     obtain ⟨jv,jw⟩:=iN lO ((ai bg dV).length:Int)
     obtain ⟨qA,e107,jt⟩:=Kd.bK (by repeat (first|(with_reducible exact rj.z)|(with_reducible refine Kd.jO ?_ _)|(with_reducible refine Kd.jP ?_ _)|(with_reducible refine Kd.ij ?_)|exact rj.z)) lO jv jw
     cases e107
     replace jv:=eT jv
     replace jw:=eT jw
     obtain ⟨ia,ic⟩:=iN lO (l1.length:Int)
     obtain ⟨ux,e108,jH⟩:=Kd.bK iM.z lO ia ic
     have PL:=jH
     cases e108
     replace jH:=hbc HB jH
     replace ia:=eT ia
     replace ic:=eT ic
     have E3:0≤(lO:Int):=oD
     have E4:(lO:Int) < (((ai bg dV).length:Int):Int):=oD
     obtain ⟨afY,m_,U8,VH,afK,aor,Ss⟩:=Kd.aun auu.z (by omega)
     (first|cases U8|(injection U8 with atd atk dM;(first|subst atd|(injection atd with atd;subst atd));subst dM;clear atk))
     (first|simp only [add_plain] at jt|skip)
     have amj:=k0 VH
     have aaO:=k0 Ss
     clear VH afK Ss
     (first|simp only [add_plain] at jt|skip)
     obtain ⟨ahx,agU⟩:=Kd.nA 0 auu.z (lO:Int) E3 E4
     replace E3:=eT E3
     replace E4:=eT E4
     have ahb:(dV:Int) < (bg.length:Int):=(by have h_:(dV:Int) < ((bg.length:Int):Int):=oD;first|exact h_|(have e_:=(Kd.as4 aq.z).1;omega)|simpa only [List.length_set,List.length_set] using h_)
     obtain ⟨arQ,aog,agD,af0,Wq,XP,V2⟩:=Kd.vP aq.z [] (dV:Int) oD (by first|exact ahb|(have e_:=(Kd.as4 aq.z).1;omega))
     obtain ⟨asC,rfl,Gz⟩:=af0
     have Ku:=Wq 0 _ rfl
     rw [Nat.add_zero,show ((Kd.slice 2 (Kd.int .i64))).sz=1 from rfl,Nat.mul_one] at Ku
     replace Ku:=Option.some.inj (Ku.symm.trans aul.z)
     subst Ku
     clear Wq agD
     replace Gz:=(show Kd.R (Kd.int .i64) 2 _ _ _ _ (ai bg dV) from Gz)
     have DT:=Kd.s8 Gz (lO:Int) (wrap64 ((rd (ai bg dV) lO) * (rd l1 lO)))
     have M8:=k0 (tq DT.2 aul.z (vV (XP _ (Gz.1 _ rfl)).2))
     rw [← yN.z] at DT
     have am7:=k0 DT.1
     have MR:=V2 DT.2 (fun k_ e_=>by injection e_ with e_;subst e_;exact Gz.1 _ rfl) (x':=xB) (Kd.ke DT.1)
     rw [← uo.z] at MR
     have SQ:=k0 MR
     clear DT MR V2 XP
     refine atG (n:=11) (S:=fun w'=>w'.cell? ⟨afY,(lO).toNat,none⟩=some (.int .i64 (rd (ai bg dV) lO))∧w'.cell? (ux.add (lO).toNat)=some (.int .i64 (rd l1 lO))) (ds:=[10]) (ba 11 0) (by kernel_rfl) rfl rfl ⟨jt,(hbc HB PL)⟩ (fun hHeld=>?_);refine jX gw.Ri gw.NL (fun aj bP=>?_)
     generalize wr.drew=yp at aq auu aa rj aul HB aaO SQ M8 agU jt jH ahx hHeld ⊢
     refine pu 0 (some 22) (ba 11 1) aj (h:=?_)
     refine pu 1 (some 23) (ba 11 3) aj (h:=?_)
     refine pu 2 (some 24) (ba 11 7) aj (h:=?_)
     refine pu 4 (some 26) (ba 11 23) aj (h:=?_)
     refine pu 5 (some 27) (ba 11 55) aj (h:=?_)
     refine pu 6 (some 28) (ba 11 119) aj (h:=?_)
     refine t_ 3 (some 25) (ba 11 127) aj bP hHeld (h:=?_)
     refine t_ 7 (some 29) (ba 11 255) aj bP hHeld (h:=?_)
     refine pu 8 (some 30) (ba 11 511) aj (h:=?_)
     refine pu 9 (some 31) (ba 11 1023) aj (h:=?_)
     refine oK (i:=10) (N:=none) (ba 11 2047) rfl rfl (atq aj.out (by kernel_rfl)) (by decide) (fun K hK=>?_)
     refine lf (w1:=?_) (by rfl) rfl ?_ ?_
     rotate_left;· go_simp;rfl
     refine hK.out _ _ ?_
     clear hK K
     refine gY (jU aj.out (by kernel_rfl)) ?_
     try go_wp2
     (try simp only [← at0])
     first|go_roundg k2|((try (have e_:=yF.out;injection e_ with eu kE atp;subst eu atp));go_roundg k2)
     case measure=>have:=as3.z;have:=bw.z;omega
     case rel=>exact ⟨(tY),(wrap64 (lO+1)),rs,H',⟨by have:=as3.z;have:=bw.z;omega⟩,⟨by (with_reducible repeat (first|apply cx.alloc|apply cx.drewN|apply cx.drew));first|exact ⟨_,_,_,rfl,(by first|exact of_eq_true eL|exact eW atD.out|omega),(by first|exact of_eq_true ee|exact ct atD.out|(have h_:=of_eq_true ee;omega)|(have h_:=ct atD.out;omega)),M8.z⟩|(rw [← yF.out];exact ⟨_,_,_,rfl,(by first|exact of_eq_true eL|exact eW atD.out|omega),(by first|exact of_eq_true ee|exact ct atD.out|(have h_:=of_eq_true ee;omega)|(have h_:=ct atD.out;omega)),M8.z⟩)⟩,⟨by (try simp only [cV]);(try simp only [at0]);(with_reducible repeat (first|apply Kd.gQ|apply Kd.atB|apply Kd.dK));exact SQ.out⟩,⟨by (try simp only [cV]);(try simp only [at0]);(with_reducible repeat (first|refine o_ ?_ _|refine dg ?_|refine atW ?_ _));refine yU ?_ (by have h_:=Kd.jh auu.z aa.z (by decide);intro e_;exact h_ (by rw [e_];rfl)) _;exact bk⟩,⟨aL HB.z⟩⟩
end Go.Proofs.Ytapnggjaeehpdaa.B
/- Set with little white space, by a program. -/
