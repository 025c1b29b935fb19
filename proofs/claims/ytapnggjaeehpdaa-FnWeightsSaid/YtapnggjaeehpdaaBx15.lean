/- Go's calls come to what the Lean functions say. Condition of each: that the Lean function answers. -/
import Derived.Test.YtapnggjaeehpdaaBx0
namespace Go.Proofs.Ytapnggjaeehpdaa.B
open Go.RowKit Go.Proofs.bz.dI Go.Proofs.bz.iY Go.Proofs.bz.jn
attribute [local go_sem] max2_int min2_int max_two min_two max_three min_three max_four min_four
set_option linter.unusedVariables false
set_option linter.unusedSimpArgs false
set_option maxHeartbeats 8000000
set_option maxRecDepth 100000
/-! ### F113: function 113 -/
def atT.f (as0:Int) (ak:List (List Int)) (a1:Int):Option (Int × Int):=if 0≤(wrap64 (Int.tdiv a1 2)) then (if (wrap64 (Int.tdiv a1 2)) < (ak.length:Int) then (if (Int.tmod a1 2)=1 then (if 1 < ((ai ak (wrap64 (Int.tdiv a1 2))).length:Int) then (if 0 < ((ai ak (wrap64 (Int.tdiv a1 2))).length:Int) then (some (rd (ai ak (wrap64 (Int.tdiv a1 2))) 1,rd (ai ak (wrap64 (Int.tdiv a1 2))) 0)) else (none)) else (none)) else (if 0 < ((ai ak (wrap64 (Int.tdiv a1 2))).length:Int) then (if 1 < ((ai ak (wrap64 (Int.tdiv a1 2))).length:Int) then (some (rd (ai ak (wrap64 (Int.tdiv a1 2))) 0,rd (ai ak (wrap64 (Int.tdiv a1 2))) 1)) else (none)) else (none))) else (none)) else (none)
theorem atT.calls (as0 : Int) (bu : Option Addr) (bq : Nat) (ak : List (List Int)) (a1 : Int) (r1 : Int) (r2 : Int) (w : World) (dy : Kd.C (Kd.slice 2 (Kd.int .i64)) w bu ak.length ak) (ey : ak.length ≤ bq) (h : atT.f as0 ak a1 = some (r1, r2)) :
  Calls Try.prog 113 #[.agg #[.int .i64 as0,.slice bu ak.length bq],.int .i64 a1] w fun e w'=>e=.returned (.tuple #[.int .i64 r1,.int .i64 r2])∧Below w.heap.size w w':=by
 have gV:=Try.underlying26
 have dJ:=k0 dy
 have iK:=k0 ey
 clear dy ey
 have HB:=k0 (Below.refl w.heap.size w)
 unfold atT.f at h
 have H:=h
 clear h
 obtain ⟨bE,at7⟩:∃ j_:Int,(wrap64 (Int.tdiv a1 2))=j_:=⟨_,rfl⟩
 replace H:(if 0≤(bE) then (if (bE) < (ak.length:Int) then (if (Int.tmod a1 2)=1 then (if 1 < ((ai ak (bE)).length:Int) then (if 0 < ((ai ak (bE)).length:Int) then (some (rd (ai ak (bE)) 1,rd (ai ak (bE)) 0)) else (none)) else (none)) else (if 0 < ((ai ak (bE)).length:Int) then (if 1 < ((ai ak (bE)).length:Int) then (some (rd (ai ak (bE)) 0,rd (ai ak (bE)) 1)) else (none)) else (none))) else (none)) else (none))=some (r1,r2):=by first|(rw [at7] at H;exact H)|(simp only [at7] at H ⊢;exact H)
 have Pv:(IntKind.i64.wrap (Int.tdiv a1 2))=bE:=(bp _).trans at7
 replace H:=iS H;obtain ⟨c4,H⟩:=H
 have gI:=decide_eq_true c4
 clear c4
 replace H:=iS H;obtain ⟨c5,H⟩:=H
 have gJ:=decide_eq_true c5
 clear c5
 replace H:=iE H;obtain ⟨c6,iP,mY,H⟩|⟨iP,mY,H⟩:=H
 case inl =>
  replace H:=iS H;obtain ⟨c11,H⟩:=H
  have kW:=decide_eq_true c11
  have Am:decide (0 < (ai ak (bE)).length)=true:=decide_eq_true (by omega)
  clear c11
  replace H:=iS H;obtain ⟨c12,H⟩:=H
  have pg:=decide_eq_true c12
  have Ek:decide (1 < (ai ak (bE)).length)=true:=decide_eq_true (by omega)
  clear c12
  obtain ⟨rfl,rfl⟩:=mT H
  go_enter Try.func113,Try.ntmps113
  go_wp2_with (first|(refine aX (N:=2) rfl ?_;refine dL 2 #[.int .i64 as0,.slice bu ak.length bq] 26 bl ?_;intro ay rK aa bn HB;have cG:=bn;obtain ⟨J9,J',Ka,Kb⟩:=as9 aa;have cW:0≤((bE):Int):=oD;have cX:(bE) < (ak.length:Int):=oD;obtain ⟨lA,zM,Ak,e102,eP,kJ,kI⟩:=b8 dJ.z (bE) cW cX;cases e102;replace eP:=hbc HB eP;have atY:=k0 kI;have ava:=k0 kJ;clear kI kJ;replace cW:=eT cW;replace cX:=eT cX;have dm:0≤(0:Int):=(by omega);have c_:0 < ((ai ak (bE)).length:Int):=oD;obtain ⟨jo,e105,dO⟩:=Kd.bK atY.z 0 dm c_;cases e105;have E5:(0 < (ai ak (bE)).length)=True:=eq_true (by omega);(try rw [show ((0:Int)).toNat=0 from rfl] at dO);(try rw [Addr.add_zero'] at dO);replace dO:=hbc HB dO;replace dm:=eT dm;replace c_:=eT c_;have eL:0≤(1:Int):=(by omega);have ee:1 < ((ai ak (bE)).length:Int):=oD;obtain ⟨oq,e106,fY⟩:=Kd.bK atY.z 1 eL ee;obtain rfl:jo=oq:=(by injection e106);(try simp only [show (1:Int).toNat=1 from rfl,Nat.reduceMul,Nat.reduceEqDiff,Go.Addr.add,↓reduceIte] at fY);have Ld:(1 < (ai ak (bE)).length)=True:=eq_true (by omega);(try rw [show ((1:Int)).toNat=1 from rfl] at fY);replace fY:=hbc HB fY;replace eL:=eT eL;replace ee:=eT ee))
  repeat (go_quiet (first|(refine aX (N:=2) rfl ?_;refine dL 2 #[.int .i64 as0,.slice bu ak.length bq] 26 bl ?_;intro ay rK aa bn HB;have cG:=bn;obtain ⟨J9,J',Ka,Kb⟩:=as9 aa;have cW:0≤((bE):Int):=oD;have cX:(bE) < (ak.length:Int):=oD;obtain ⟨lA,zM,Ak,e102,eP,kJ,kI⟩:=b8 dJ.z (bE) cW cX;cases e102;replace eP:=hbc HB eP;have atY:=k0 kI;have ava:=k0 kJ;clear kI kJ;replace cW:=eT cW;replace cX:=eT cX;have dm:0≤(0:Int):=(by omega);have c_:0 < ((ai ak (bE)).length:Int):=oD;obtain ⟨jo,e105,dO⟩:=Kd.bK atY.z 0 dm c_;cases e105;have E5:(0 < (ai ak (bE)).length)=True:=eq_true (by omega);(try rw [show ((0:Int)).toNat=0 from rfl] at dO);(try rw [Addr.add_zero'] at dO);replace dO:=hbc HB dO;replace dm:=eT dm;replace c_:=eT c_;have eL:0≤(1:Int):=(by omega);have ee:1 < ((ai ak (bE)).length:Int):=oD;obtain ⟨oq,e106,fY⟩:=Kd.bK atY.z 1 eL ee;obtain rfl:jo=oq:=(by injection e106);(try simp only [show (1:Int).toNat=1 from rfl,Nat.reduceMul,Nat.reduceEqDiff,Go.Addr.add,↓reduceIte] at fY);have Ld:(1 < (ai ak (bE)).length)=True:=eq_true (by omega);(try rw [show ((1:Int)).toNat=1 from rfl] at fY);replace fY:=hbc HB fY;replace eL:=eT eL;replace ee:=eT ee));try go_wp2_with (first|(refine aX (N:=2) rfl ?_;refine dL 2 #[.int .i64 as0,.slice bu ak.length bq] 26 bl ?_;intro ay rK aa bn HB;have cG:=bn;obtain ⟨J9,J',Ka,Kb⟩:=as9 aa;have cW:0≤((bE):Int):=oD;have cX:(bE) < (ak.length:Int):=oD;obtain ⟨lA,zM,Ak,e102,eP,kJ,kI⟩:=b8 dJ.z (bE) cW cX;cases e102;replace eP:=hbc HB eP;have atY:=k0 kI;have ava:=k0 kJ;clear kI kJ;replace cW:=eT cW;replace cX:=eT cX;have dm:0≤(0:Int):=(by omega);have c_:0 < ((ai ak (bE)).length:Int):=oD;obtain ⟨jo,e105,dO⟩:=Kd.bK atY.z 0 dm c_;cases e105;have E5:(0 < (ai ak (bE)).length)=True:=eq_true (by omega);(try rw [show ((0:Int)).toNat=0 from rfl] at dO);(try rw [Addr.add_zero'] at dO);replace dO:=hbc HB dO;replace dm:=eT dm;replace c_:=eT c_;have eL:0≤(1:Int):=(by omega);have ee:1 < ((ai ak (bE)).length:Int):=oD;obtain ⟨oq,e106,fY⟩:=Kd.bK atY.z 1 eL ee;obtain rfl:jo=oq:=(by injection e106);(try simp only [show (1:Int).toNat=1 from rfl,Nat.reduceMul,Nat.reduceEqDiff,Go.Addr.add,↓reduceIte] at fY);have Ld:(1 < (ai ak (bE)).length)=True:=eq_true (by omega);(try rw [show ((1:Int)).toNat=1 from rfl] at fY);replace fY:=hbc HB fY;replace eL:=eT eL;replace ee:=eT ee)))
  go_ret2
  exact ⟨by first|rfl|(simp [kG,kH]<;>rfl)|(simp only [← at7];first|rfl|(simp [kG,kH]<;>rfl))|(simp [*,kG,kH]<;>rfl),bl⟩
 replace H:=iS H;obtain ⟨c7,H⟩:=H
 have pn:=decide_eq_true c7
 have au5:decide (1 < (ai ak (bE)).length)=true:=decide_eq_true (by omega)
 clear c7
 replace H:=iS H;obtain ⟨c8,H⟩:=H
 have kX:=decide_eq_true c8
 have tj:decide (0 < (ai ak (bE)).length)=true:=decide_eq_true (by omega)
 clear c8
 obtain ⟨rfl,rfl⟩:=mT H
 go_enter Try.func113,Try.ntmps113
 go_wp2_with (first|(refine aX (N:=2) rfl ?_;refine dL 2 #[.int .i64 as0,.slice bu ak.length bq] 26 bl ?_;intro ay w9 aa bn HB;have cG:=bn;obtain ⟨Pe,Pf,Pp,Pq⟩:=as9 aa;have cW:0≤((bE):Int):=oD;have cX:(bE) < (ak.length:Int):=oD;obtain ⟨lA,zM,Ak,e102,eP,kJ,kI⟩:=b8 dJ.z (bE) cW cX;cases e102;replace eP:=hbc HB eP;have atY:=k0 kI;have ava:=k0 kJ;clear kI kJ;replace cW:=eT cW;replace cX:=eT cX;have d_:0≤(1:Int):=(by omega);have ec:1 < ((ai ak (bE)).length:Int):=oD;obtain ⟨lB,e103,eE⟩:=Kd.bK atY.z 1 d_ ec;cases e103;(try simp only [show (1:Int).toNat=1 from rfl,Nat.reduceMul,Nat.reduceEqDiff,Go.Addr.add,↓reduceIte] at eE);have Y3:(1 < (ai ak (bE)).length)=True:=eq_true (by omega);(try rw [show ((1:Int)).toNat=1 from rfl] at eE);replace eE:=hbc HB eE;replace d_:=eT d_;replace ec:=eT ec;have cC:0≤(0:Int):=(by omega);have cD:0 < ((ai ak (bE)).length:Int):=oD;obtain ⟨jE,e104,cM⟩:=Kd.bK atY.z 0 cC cD;obtain rfl:lB=jE:=(by injection e104);have Ic:(0 < (ai ak (bE)).length)=True:=eq_true (by omega);(try rw [show ((0:Int)).toNat=0 from rfl] at cM);(try rw [Addr.add_zero'] at cM);replace cM:=hbc HB cM;replace cC:=eT cC;replace cD:=eT cD))
 repeat (go_quiet (first|(refine aX (N:=2) rfl ?_;refine dL 2 #[.int .i64 as0,.slice bu ak.length bq] 26 bl ?_;intro ay w9 aa bn HB;have cG:=bn;obtain ⟨Pe,Pf,Pp,Pq⟩:=as9 aa;have cW:0≤((bE):Int):=oD;have cX:(bE) < (ak.length:Int):=oD;obtain ⟨lA,zM,Ak,e102,eP,kJ,kI⟩:=b8 dJ.z (bE) cW cX;cases e102;replace eP:=hbc HB eP;have atY:=k0 kI;have ava:=k0 kJ;clear kI kJ;replace cW:=eT cW;replace cX:=eT cX;have d_:0≤(1:Int):=(by omega);have ec:1 < ((ai ak (bE)).length:Int):=oD;obtain ⟨lB,e103,eE⟩:=Kd.bK atY.z 1 d_ ec;cases e103;(try simp only [show (1:Int).toNat=1 from rfl,Nat.reduceMul,Nat.reduceEqDiff,Go.Addr.add,↓reduceIte] at eE);have Y3:(1 < (ai ak (bE)).length)=True:=eq_true (by omega);(try rw [show ((1:Int)).toNat=1 from rfl] at eE);replace eE:=hbc HB eE;replace d_:=eT d_;replace ec:=eT ec;have cC:0≤(0:Int):=(by omega);have cD:0 < ((ai ak (bE)).length:Int):=oD;obtain ⟨jE,e104,cM⟩:=Kd.bK atY.z 0 cC cD;obtain rfl:lB=jE:=(by injection e104);have Ic:(0 < (ai ak (bE)).length)=True:=eq_true (by omega);(try rw [show ((0:Int)).toNat=0 from rfl] at cM);(try rw [Addr.add_zero'] at cM);replace cM:=hbc HB cM;replace cC:=eT cC;replace cD:=eT cD));try go_wp2_with (first|(refine aX (N:=2) rfl ?_;refine dL 2 #[.int .i64 as0,.slice bu ak.length bq] 26 bl ?_;intro ay w9 aa bn HB;have cG:=bn;obtain ⟨Pe,Pf,Pp,Pq⟩:=as9 aa;have cW:0≤((bE):Int):=oD;have cX:(bE) < (ak.length:Int):=oD;obtain ⟨lA,zM,Ak,e102,eP,kJ,kI⟩:=b8 dJ.z (bE) cW cX;cases e102;replace eP:=hbc HB eP;have atY:=k0 kI;have ava:=k0 kJ;clear kI kJ;replace cW:=eT cW;replace cX:=eT cX;have d_:0≤(1:Int):=(by omega);have ec:1 < ((ai ak (bE)).length:Int):=oD;obtain ⟨lB,e103,eE⟩:=Kd.bK atY.z 1 d_ ec;cases e103;(try simp only [show (1:Int).toNat=1 from rfl,Nat.reduceMul,Nat.reduceEqDiff,Go.Addr.add,↓reduceIte] at eE);have Y3:(1 < (ai ak (bE)).length)=True:=eq_true (by omega);(try rw [show ((1:Int)).toNat=1 from rfl] at eE);replace eE:=hbc HB eE;replace d_:=eT d_;replace ec:=eT ec;have cC:0≤(0:Int):=(by omega);have cD:0 < ((ai ak (bE)).length:Int):=oD;obtain ⟨jE,e104,cM⟩:=Kd.bK atY.z 0 cC cD;obtain rfl:lB=jE:=(by injection e104);have Ic:(0 < (ai ak (bE)).length)=True:=eq_true (by omega);(try rw [show ((0:Int)).toNat=0 from rfl] at cM);(try rw [Addr.add_zero'] at cM);replace cM:=hbc HB cM;replace cC:=eT cC;replace cD:=eT cD)))
 go_ret2
 exact ⟨by first|rfl|(simp [kG,kH]<;>rfl)|(simp only [← at7];first|rfl|(simp [kG,kH]<;>rfl))|(simp [*,kG,kH]<;>rfl),bl⟩
/-! ### F121: function 121 -/
mutual
def iW.l0 : Nat → List (List Int) → Int → Int → Int → List (List Int) → Option ((List (List Int)))
 | 0,_,_,_,_,_=>none
 | k+1,x3,x4,x5,cn,cF=>if x5 < x4 then (if 0≤x4 then (if (x4:Int).toNat≤35184372088832 then ((atT.f cn cF x5).bind fun qD=>(iW.l1 k x3 x4 x5 (List.replicate (x4:Int).toNat 0) qD.2 0 cn cF)) else (none)) else (none)) else (some x3)
def iW.l1 : Nat → List (List Int) → Int → Int → List Int → Int → Int → Int → List (List Int) → Option ((List (List Int)))
 | 0,_,_,_,_,_,_,_,_=>none
 | k+1,x3,x4,x5,x6,x8,x9,cn,cF=>if x9 < x4 then ((atT.f cn cF x9).bind fun ot=>(if ot.1=x8 then (if x9=(Go.bits .xor .i64 x5 1) then (iW.l1 k x3 x4 x5 x6 x8 (wrap64 (x9+1)) cn cF) else (if 0≤x9 then (if x9 < (x6.length:Int) then (iW.l1 k x3 x4 x5 (x6.set (x9:Int).toNat 1) x8 (wrap64 (x9+1)) cn cF) else (none)) else (none))) else (iW.l1 k x3 x4 x5 x6 x8 (wrap64 (x9+1)) cn cF))) else (if x3.length < 5864062014805 then (iW.l0 k (x3 ++ [x6]) x4 (wrap64 (x5+1)) cn cF) else (none))
end
def iW.f (k:Nat) (as0:Int) (ak:List (List Int)):Option ((List (List Int))):=iW.l0 k (([]:List (List Int))) (wrap64 (2 * (ak.length:Int))) 0 as0 ak
theorem iW.calls (k : Nat) (as0 : Int) (bu : Option Addr) (bq : Nat) (ak : List (List Int)) (r : List (List Int)) (w : World) (dy : Kd.C (Kd.slice 2 (Kd.int .i64)) w bu ak.length ak) (ey : ak.length ≤ bq) (h : iW.f k as0 ak = some r) :
  Calls Try.prog 121 #[.agg #[.int .i64 as0,.slice bu ak.length bq]] w fun e w'=>∃ ati:Value,e=.returned (ati)∧Kd.S (Kd.slice 2 (Kd.int .i64)) 29 w' w.heap.size (fun _=>True) ati r∧Below w.heap.size w w':=by
 have gV:=Try.underlying26
 have dJ:=k0 dy
 have iK:=k0 ey
 clear dy ey
 have HB:=k0 (Below.refl w.heap.size w)
 unfold iW.f at h
 have H:=h
 clear h
 obtain ⟨mz,rq⟩:=nY (([]:List (List Int)):List (List Int))
 replace H:(iW.l0 k mz (wrap64 (2 * (ak.length:Int))) 0 as0 ak)=some r:=rH rq.z H
 have H':=k0 H
 clear H
 go_enter Try.func121,Try.ntmps121
 try go_wp2_with (first|(refine aX (N:=1) rfl ?_;refine dL 1 #[.int .i64 as0,.slice bu ak.length bq] 26 bl ?_;intro ay w2 aa bn HB;have cG:=bn))
 replace aa:=k0 (dg aa.z);replace HB:=k0 (eZ HB.z)
 refine atG (n:=7) (S:=fun w'=>w'.cell? ⟨ay,0,none⟩=some (.int .i64 as0)∧w'.cell? ⟨ay,1,none⟩=some (.slice bu ak.length bq)) (ds:=[]) (ba 7 0) (by kernel_rfl) rfl rfl ⟨dU aa,ej aa⟩ (fun hHeld=>?_)
 generalize w2.drew=w3 at aa HB hHeld ⊢
 refine jc (i:=1) (N:=some 13) (v:=?_) (a':=?_) (ba 7 2) rfl rfl (by kernel_rfl) (fun _ _ _ h=>h) (Or.inl ⟨by rfl,?_⟩) ?_ ?_
 rotate_left;· intro w';go_simp;with_reducible rfl
 rotate_left;· simp only [Act.put,zI,zZ,zS,bp,bH];rfl
 refine oQ (i:=2) (N:=some 14) (v:=?_) (a':=?_) (ba 7 6) rfl rfl (by kernel_rfl) (fun _ _ _ h=>h) (Or.inl ⟨by rfl,?_⟩) hHeld ?_ ?_
 rotate_left;· rintro w' ⟨s0,s1⟩;go_simp;with_reducible rfl
 rotate_left;· simp only [Act.put,zI,zZ,zS,bp,bH];rfl
 refine jc (i:=3) (N:=some 15) (v:=?_) (a':=?_) (ba 7 14) rfl rfl (by kernel_rfl) (fun _ _ _ h=>h) (Or.inl ⟨by rfl,?_⟩) ?_ ?_
 rotate_left;· intro w';go_simp;with_reducible rfl
 rotate_left;· simp only [Act.put,zI,zZ,zS,bp,bH];rfl
 refine jc (i:=4) (N:=some 16) (v:=?_) (a':=?_) (ba 7 30) rfl rfl (by kernel_rfl) (fun _ _ _ h=>h) (Or.inl ⟨by rfl,?_⟩) ?_ ?_
 rotate_left;· intro w';go_simp;with_reducible rfl
 rotate_left;· simp only [Act.put,zI,zZ,zS,bp,bH];rfl
 refine atw (i:=0) (N:=some 12) (ba 7 31) rfl rfl (by kernel_rfl) (by decide) (fun K hK=>?_)
 refine Kd.acK (Kd.slice 2 (Kd.int .i64)) _ 29 ?hg (N:=12) ?hd (xs:=([]:List (List Int))) (inner:=[]) (ok:=fun _=>True) (cm:=fun _=>True) ?hr ?hp (fun _ hk=>hk) trivial (Below.refl _ _) (Nat.le_refl _) (by simp) ?_;(case hd=>rfl);(case hg=>rfl);(case hr=>first|(go_simp;done)|(go_simp;rfl));(case hp=>exact (aJ.none _ _))
 intro zw w4 wD hb bR atf
 clear bR atf
 (first|rw [← rq.z] at wD|(simp only [Int.reduceToNat] at wD;rw [← rq.z] at wD))
 have fh:=k0 (Kd.jD wD (as8 bl));replace aa:=kB aa hb;replace HB:=bW hb
 clear hb wD
 refine hK.out _ _ ⟨dU aa,ej aa⟩ (fun hHeld=>?_)
 clear hK K
 refine hJ (a':=?_) ?_ ?_
 rotate_left;· show Act.put _ (some 12) _=_;simp only [Act.put,zI,zZ,zS,bp,bH];rfl
 refine jc (i:=5) (N:=some 3) (v:=?_) (a':=?_) (ba 7 63) rfl rfl (by kernel_rfl) (fun _ _ _ h=>h) (Or.inl ⟨by rfl,?_⟩) ?_ ?_
 rotate_left;· intro w';go_simp;with_reducible rfl
 rotate_left;· simp only [Act.put,zI,zZ,zS,bp,bH];rfl
 refine jc (i:=6) (N:=some 4) (v:=?_) (a':=?_) (ba 7 127) rfl rfl (by kernel_rfl) (fun _ _ _ h=>h) (Or.inl ⟨by rfl,?_⟩) ?_ ?_
 rotate_left;· intro w';go_simp;with_reducible rfl
 rotate_left;· simp only [Act.put,zI,zZ,zS,bp,bH];rfl
 refine gY (by kernel_rfl) ?_
 try go_wp2
 go_loopg [3,5] k (fun kq v3 v5 w'=>∃ (cQ:List (List Int)) (aD:Int),v5=.int .i64 aD∧af (iW.l0 kq cQ (wrap64 (2 * (ak.length:Int))) aD as0 ak=some r)∧af (kq≤k)∧af (Kd.S (Kd.slice 2 (Kd.int .i64)) 29 w' w.heap.size (fun _=>True) v3 cQ)∧af (w'.heap[ay]?=some (sO as0 bu ak bq 26))∧af (Below w.heap.size w w'))
 case atStart=>exact ⟨(mz),(0),rs,H',⟨Nat.le_refl _⟩,⟨aS (fh.z)⟩,⟨bk⟩,⟨bl⟩⟩
 case round =>
  clear H'
  obtain ⟨cQ,aD,rfl,HA,as3,cr,aa,HB⟩:=hrel
  cases gk with
  | zero=>exact absurd HA.z (by simp [iW.l0])
  | succ k1 =>
   have H:=HA.z
   clear HA
   simp only [iW.l0] at H
   replace H:=iC H;obtain ⟨iP,H⟩|⟨iP,H⟩:=H
   case inl =>
    obtain rfl:=Option.some.inj H
    go_wp2
    go_ret
    exact ⟨_,eR,aS cr.z,bl⟩
   obtain ⟨uO,tC⟩:∃ j_:Int,(wrap64 (2 * (ak.length:Int)))=j_:=⟨_,rfl⟩
   replace H:(if 0≤(uO) then (if ((uO):Int).toNat≤35184372088832 then ((atT.f as0 ak aD).bind fun qD=>(iW.l1 k1 cQ (uO) aD (List.replicate ((uO):Int).toNat 0) qD.2 0 as0 ak)) else (none)) else (none))=some r:=by first|(rw [tC] at H;exact H)|(simp only [tC] at H ⊢;exact H)
   (try rw [tC] at iP)
   have ag9:(IntKind.i64.wrap (2 * (ak.length:Int)))=uO:=(bp _).trans tC
   replace H:=iS H;obtain ⟨c8,H⟩:=H
   have kX:=eq_true c8
   have tj:=decide_eq_true c8
   clear c8
   replace H:=iS H;obtain ⟨c9,H⟩:=H
   have au6:=eq_true c9
   have Ob:=decide_eq_true c9
   clear c9
   obtain ⟨Bv,xS⟩:=nY (List.replicate ((uO):Int).toNat 0:List Int)
   replace H:((atT.f as0 ak aD).bind fun qD=>(iW.l1 k1 cQ (uO) aD Bv qD.2 0 as0 ak))=some r:=rH xS.z H
   replace H:=bS H;obtain ⟨⟨t108,t109⟩,A10,H⟩:=H
   dsimp only at H
   have H':=k0 H
   clear H
   go_wp2_with (first|(refine aX (N:=23) rfl ?_;(try simp only [tC,ag9]);refine Kd.Jw (Kd.int .i64) _ 2 rfl (N:=23) rfl 29 _ _ rfl (uO) rfl rfl Try.underlying29 (.int .i64 0) 8 ju rfl (by decide) (by omega) 0 (ok:=fun _=>True) (cm:=fun _=>True) rfl (fun _ hk=>hk) trivial oD (Nat.le_trans (Nat.mul_le_mul_right _ (oD:(uO).toNat≤35184372088832)) (by omega)) (Below.refl _ _) (Nat.le_refl _) ?_;intro C8 Bo su hb bR atf;clear bR atf;(first|rw [← xS.z] at su|(simp only [Int.reduceToNat] at su;rw [← xS.z] at su));replace cr:=kg cr (Kd.bh su) hb;have lz:=k0 (Kd.cg su (as8 bl));replace aa:=kB aa hb;replace HB:=bW hb;clear hb su;obtain ⟨_,_,_,_⟩:=as9 aa)|(refine aT (f:=113) rfl ?_;refine gC (some 27) Try.func113 #[.agg #[.int .i64 as0,.slice bu ak.length bq],.int .i64 aD] ?_;(with_reducible refine (atT.calls as0 _ _ ak aD t108 t109 _ ?av ?ax A10.z).mono ?_);(case av=>exact aC (Kd.bL dJ.z HB.z));(case ax=>exact iK.z);rintro e vk ⟨rfl,hb⟩;refine ⟨_,rfl,?_⟩;replace cr:=nF cr hb;replace lz:=eI lz hb;replace aa:=kB aa hb;replace HB:=bW hb))
   go_loopg [9] k1 (fun kq v9 w'=>∃ (sK:List Int) (fZ:Int),v9=.int .i64 fZ∧af (iW.l1 kq cQ (uO) aD sK t109 fZ as0 ak=some r)∧af (kq≤k1)∧af (Kd.S (Kd.slice 2 (Kd.int .i64)) 29 w' w.heap.size (fun k_=>some k_ ≠ (C8:Value).ownBlock) u3 cQ)∧af (Kd.R (Kd.int .i64) 2 w' w.heap.size (fun _=>True) C8 sK)∧af (w'.heap[ay]?=some (sO as0 bu ak bq 26))∧af (Below w.heap.size w w'))
   case atStart=>exact ⟨(Bv),(0),rs,H',⟨Nat.le_refl _⟩,⟨aS (Kd.bQ cr.z (fun _ hk=>hk.2))⟩,⟨aR (lz.z)⟩,⟨bk⟩,⟨bl⟩⟩
   case round =>
    clear H'
    obtain ⟨sK,fZ,rfl,HA,bw,cr,aI,aa,HB⟩:=hrel
    cases gk with
    | zero=>exact absurd HA.z (by simp [iW.l1])
    | succ k2 =>
     have H:=HA.z
     clear HA
     simp only [iW.l1] at H
     replace H:=iC H;obtain ⟨qG,H⟩|⟨qG,H⟩:=H
     case inl =>
      replace H:=iS H;obtain ⟨c30,H⟩:=H
      have Ni:=k0 c30
      clear c30
      obtain ⟨vr,uq⟩:=nY (cQ ++ [sK]:List (List Int))
      replace H:(iW.l0 k2 vr (uO) (wrap64 (aD+1)) as0 ak)=some r:=rH uq.z H
      have H':=k0 H
      clear H
      obtain ⟨au',Av,rfl⟩:=Kd.b9 aI.z
      go_wp2_with (first|((with_reducible refine ji (b:=.append) (xs:=#[.tmp 53,.tmp 55]) rfl ?_);at_builtin;refine Kd.uv (Kd.slice 2 (Kd.int .i64)) (w0:=w) w.heap.size rfl (.tmp 53) (.tmp 55) 24 29 (.slice none 0 0) 24 rfl Try.underlying24 sB rfl (by decide) (by omega) u3 cQ sK [.slice au' sK.length Av] (fun _=>True) (fun k_=>some k_=(.slice au' sK.length Av:Value).ownBlock) rfl rfl ?aP (fun k_ aU=>((Kd.aH (ok':=fun k_=>((fun _=>True)) k_∧some k_ ≠ (u3:Value).ownBlock) (Kd.iZ (aI.z) (Kd.atC cr.z) (by decide)) (fun k_ hk=>⟨trivial,hk.2⟩))).1 k_ aU.symm) ?aF ?aO ?aB ?aS ?aL ?_;(case aP=>exact Kd.ke (Kd.aH (Kd.om rfl (Kd.aH (ok':=fun k_=>((fun _=>True)) k_∧some k_ ≠ (u3:Value).ownBlock) (Kd.iZ (aI.z) (Kd.atC cr.z) (by decide)) (fun k_ hk=>⟨trivial,hk.2⟩))) (fun _ h_=>h_)));(case aB=>exact bl);(case aF=>exact (fun _ _=>trivial));(case aO=>exact (aS (Kd.bQ cr.z (fun k_ hk=>⟨trivial,fun e_=>hk e_⟩))));(case aS=>exact (as8 bl));(case aL=>have:=Ni.out;omega);intro Lr Lx ho hb hg a_;rw [← uq.z] at ho;replace aa:=k0 (fL (aB aa.z) hg (Kd.mX cr.z aa.z (by decide)));replace HB:=k0 hb;have mD:=k0 ho;clear cr aI;clear ho hb hg a_))
      first|go_roundg k2|(simp only [← tC];go_roundg k2)
      case measure=>have:=as3.z;have:=bw.z;omega
      case rel=>exact ⟨(vr),(wrap64 (aD+1)),rs,(by first|exact H'|(rw [tC];exact H')),⟨by have:=as3.z;have:=bw.z;omega⟩,⟨aS (mD.z)⟩,⟨bk⟩,⟨bl⟩⟩
     replace H:=bS H;obtain ⟨⟨t110,t111⟩,xF,H⟩:=H
     dsimp only at H
     replace H:=iE H;obtain ⟨c17,Ap,ad3,H⟩|⟨Ap,ad3,H⟩:=H
     case inl =>
      have H':=k0 H
      clear H
      obtain ⟨_,_,_,_⟩:=as9 aa
      go_wp2_with (first|(refine aT (f:=113) rfl ?_;refine gC (some 38) Try.func113 #[.agg #[.int .i64 as0,.slice bu ak.length bq],.int .i64 fZ] ?_;(with_reducible refine (atT.calls as0 _ _ ak fZ t110 t111 _ ?av ?ax xF.z).mono ?_);(case av=>exact aC (Kd.bL dJ.z HB.z));(case ax=>exact iK.z);rintro e Iy ⟨rfl,hb⟩;refine ⟨_,rfl,?_⟩;replace cr:=nF cr hb;replace aI:=eI aI hb;replace aa:=kB aa hb;replace HB:=bW hb))
      first|go_roundg k2|(simp only [← tC];go_roundg k2)
      case measure=>have:=as3.z;have:=bw.z;omega
      case rel=>exact ⟨(sK),(wrap64 (fZ+1)),rs,(by first|exact H'|(rw [tC];exact H')),⟨by have:=as3.z;have:=bw.z;omega⟩,⟨aS (cr.z)⟩,⟨aR (aI.z)⟩,⟨bk⟩,⟨bl⟩⟩
     replace H:=iE H;obtain ⟨c18,au2,ad4,H⟩|⟨au2,ad4,H⟩:=H
     case inl =>
      replace H:=iS H;obtain ⟨c21,H⟩:=H
      have ow:=decide_eq_true c21
      clear c21
      replace H:=iS H;obtain ⟨c22,H⟩:=H
      have Cd:=decide_eq_true c22
      clear c22
      obtain ⟨vq,vL⟩:=nY (sK.set (fZ:Int).toNat 1:List Int)
      replace H:(iW.l1 k2 cQ (uO) aD vq t109 (wrap64 (fZ+1)) as0 ak)=some r:=rH vL.z H
      have H':=k0 H
      clear H
      obtain ⟨_,_,_,_⟩:=as9 aa
      go_wp2_with (first|(refine aT (f:=113) rfl ?_;refine gC (some 38) Try.func113 #[.agg #[.int .i64 as0,.slice bu ak.length bq],.int .i64 fZ] ?_;(with_reducible refine (atT.calls as0 _ _ ak fZ t110 t111 _ ?av ?ax xF.z).mono ?_);(case av=>exact aC (Kd.bL dJ.z HB.z));(case ax=>exact iK.z);rintro e Ix ⟨rfl,hb⟩;refine ⟨_,rfl,?_⟩;replace cr:=nF cr hb;replace aI:=eI aI hb;replace aa:=kB aa hb;replace HB:=bW hb;have Qt:0≤(fZ:Int):=oD;have QU:(fZ:Int) < ((sK.length:Int):Int):=oD;obtain ⟨GH,Et,Gr,VK,afN,aou,Sv⟩:=Kd.aun aI.z (by omega);(first|cases Gr|(injection Gr with atd atk dM;(first|subst atd|(injection atd with atd;subst atd));subst dM;clear atk));have aaK:=k0 VK;have amB:=k0 Sv;clear VK afN Sv;obtain ⟨arG,apw⟩:=Kd.nA 0 aI.z (fZ:Int) Qt QU;replace Qt:=eT Qt;replace QU:=eT QU;obtain ⟨arL,arM⟩:=Kd.nA 0 aI.z (fZ:Int) oD oD;have MA:=Kd.s8 aI.z (fZ:Int) 1)|((with_reducible refine Gv (t:=2) (p:=52) rfl ?_);refine Il (t:=2) (p:=52) (v:=?asN) (w1:=(Ix.setCell ⟨GH,(fZ:Int).toNat,none⟩ (.int .i64 1))) ?hg ?ho ?hn ?hr ?_;(case ho=>rfl);(case hg=>rfl);(case hn=>rfl);(case hr=>first|(go_simp;done)|(go_simp;rfl));intro Da hw;have hg:Ix.grownBy Da (some GH):=(by rw [hw];exact MA.2);have sx:Kd.R (Kd.int .i64) 2 Da w.heap.size (fun _=>True) (.slice (some ⟨GH,0,none⟩) sK.length Et) vq:=(by rw [hw,vL.z];exact MA.1);clear MA;replace cr:=k0 (Kd.uu (v:=(.slice (some ⟨GH,0,none⟩) sK.length Et)) (v1:=(.slice (some ⟨GH,0,none⟩) sK.length Et)) (ok:=(fun _=>True)) (aS (Kd.bQ cr.z (fun _ hk=>⟨trivial,hk⟩))) hg (.inl rfl));replace aa:=k0 (fL (aB aa.z) hg (Kd.jh aI.z aa.z (by decide)));replace aI:=k0 sx;replace HB:=k0 ((by rw [hw];exact o9 (HB.z) aaK.out:Below w.heap.size w Da));clear hg hw sx))
      first|go_roundg k2|(simp only [← tC];go_roundg k2)
      case measure=>have:=as3.z;have:=bw.z;omega
      case rel=>exact ⟨(vq),(wrap64 (fZ+1)),rs,(by first|exact H'|(rw [tC];exact H')),⟨by have:=as3.z;have:=bw.z;omega⟩,⟨aS (Kd.bQ cr.z (fun _ hk=>hk.2))⟩,⟨aR (aI.z)⟩,⟨bk⟩,⟨bl⟩⟩
     have H':=k0 H
     clear H
     obtain ⟨_,_,_,_⟩:=as9 aa
     go_wp2_with (first|(refine aT (f:=113) rfl ?_;refine gC (some 38) Try.func113 #[.agg #[.int .i64 as0,.slice bu ak.length bq],.int .i64 fZ] ?_;(with_reducible refine (atT.calls as0 _ _ ak fZ t110 t111 _ ?av ?ax xF.z).mono ?_);(case av=>exact aC (Kd.bL dJ.z HB.z));(case ax=>exact iK.z);rintro e Iw ⟨rfl,hb⟩;refine ⟨_,rfl,?_⟩;replace cr:=nF cr hb;replace aI:=eI aI hb;replace aa:=kB aa hb;replace HB:=bW hb))
     first|go_roundg k2|(simp only [← tC];go_roundg k2)
     case measure=>have:=as3.z;have:=bw.z;omega
     case rel=>exact ⟨(sK),(wrap64 (fZ+1)),rs,(by first|exact H'|(rw [tC];exact H')),⟨by have:=as3.z;have:=bw.z;omega⟩,⟨aS (cr.z)⟩,⟨aR (aI.z)⟩,⟨bk⟩,⟨bl⟩⟩
/-! ### F83: function 83 -/
mutual
def gF.l0 : Nat → List Int → List (List Int) → Int → Option ((List (List Int)))
 | 0,_,_,_=>none
 | k+1,x1,x5,x6=>if x6 < (x5.length:Int) then (if 0≤x6 then (gF.l1 k x1 x5 x6 0) else (none)) else (some x5)
def gF.l1 : Nat → List Int → List (List Int) → Int → Int → Option ((List (List Int)))
 | 0,_,_,_,_=>none
 | k+1,x1,x5,x6,x8=>if x8 < ((ai x5 x6).length:Int) then (if 0≤x8 then (if x8 < (x1.length:Int) then (gF.l1 k x1 (x5.set (x6:Int).toNat ((ai x5 x6).set (x8:Int).toNat (wrap64 ((rd (ai x5 x6) x8) * (rd x1 x8))))) x6 (wrap64 (x8+1))) else (none)) else (none)) else (gF.l0 k x1 x5 (wrap64 (x6+1)))
end
def gF.f (k:Nat) (as0:Int) (ak:List (List Int)) (l1:List Int):Option ((List (List Int))):=(iW.f k as0 ak).bind fun t102=>(gF.l0 k l1 t102 0)
def gF.T9:Bool × List (List Nat × List Nat):=(true,[([],[]),([],[]),([],[]),([],[]),([2,3],[2,3]),([4],[4]),([],[]),([],[]),([6,7],[6,7]),([8],[8]),([5,9],[5,9]),([0,1,0,1,2,3,4,5,6,7,8,9,10],[0,1]),([11,10,0,1,2,3,4,5,6,7,8,9,10],[10,11])])
def gF.B9:List Nat:=[0,0,0,0,12,28,0,0,192,448,1020,2047,4095]
theorem gF.Im:eB .any (opsOf Try.f83 9)=gF.T9:=by kernel_rfl
theorem gF.F7:ie gF.T9.2 gF.B9=true:=by kernel_rfl
theorem gF.calls (k : Nat) (as0 : Int) (bu : Option Addr) (bq : Nat) (ak : List (List Int)) (A1 : Option Addr) (c1 : Nat) (l1 : List Int) (r : List (List Int)) (w : World) (dy : Kd.C (Kd.slice 2 (Kd.int .i64)) w bu ak.length ak) (ey : ak.length ≤ bq) (gl : Kd.C (Kd.int .i64) w A1 l1.length l1) (iQ : l1.length ≤ c1) (h : gF.f k as0 ak l1 = some r) :
  Calls Try.prog 83 #[.agg #[.int .i64 as0,.slice bu ak.length bq],.slice A1 l1.length c1] w fun e w'=>∃ ati:Value,e=.returned (ati)∧Kd.S (Kd.slice 2 (Kd.int .i64)) 29 w' w.heap.size (fun _=>True) ati r∧Below w.heap.size w w':=by
 have gV:=Try.underlying26
 have dJ:=k0 dy
 have iK:=k0 ey
 clear dy ey
 have iM:=k0 gl
 have yE:=k0 iQ
 clear gl iQ
 have HB:=k0 (Below.refl w.heap.size w)
 unfold gF.f at h
 have H:=h
 clear h
 replace H:=bS H;obtain ⟨t102,A3,H⟩:=H
 have H':=k0 H
 clear H
 go_enter Try.func83,Try.ntmps83
 go_wp2_with (first|(refine aX (N:=2) rfl ?_;refine dL 2 #[.int .i64 as0,.slice bu ak.length bq] 26 bl ?_;intro ay w4 aa bn HB;have cG:=bn;obtain ⟨_,_,_,_⟩:=as9 aa)|(refine aT (f:=121) rfl ?_;refine gC (some 10) Try.func121 #[.agg #[.int .i64 as0,.slice bu ak.length bq]] ?_;(with_reducible refine (iW.calls k as0 _ _ ak t102 _ ?av ?ax A3.z).mono ?_);(case av=>exact aC (Kd.bL dJ.z HB.z));(case ax=>exact iK.z);rintro e w6 ⟨zw,rfl,as2,hb⟩;refine ⟨_,rfl,?_⟩;have fh:=k0 (Kd.jD as2 (as8 bl));replace aa:=kB aa hb;replace HB:=bW hb))
 go_loopg [6] k (fun kq v6 w'=>∃ (aD:List (List Int)) (as1:Int),v6=.int .i64 as1∧af (gF.l0 kq l1 aD as1=some r)∧af (kq≤k)∧af (Kd.S (Kd.slice 2 (Kd.int .i64)) 29 w' w.heap.size (fun _=>True) zw aD)∧af (w'.heap[ay]?=some (sO as0 bu ak bq 26))∧af (Below w.heap.size w w'))
 case atStart=>exact ⟨(t102),(0),rs,H',⟨Nat.le_refl _⟩,⟨aS (fh.z)⟩,⟨bk⟩,⟨bl⟩⟩
 case round =>
  clear H'
  obtain ⟨aD,as1,rfl,HA,as3,aq,aa,HB⟩:=hrel
  cases gk with
  | zero=>exact absurd HA.z (by simp [gF.l0])
  | succ k1 =>
   have H:=HA.z
   clear HA
   simp only [gF.l0] at H
   replace H:=iC H;obtain ⟨pn,H⟩|⟨pn,H⟩:=H
   case inl =>
    obtain rfl:=Option.some.inj H
    obtain ⟨R6,UQ,rfl⟩:=Kd.er aq.z
    go_wp2
    go_ret
    exact ⟨_,eR,aS aq.z,bl⟩
   replace H:=iS H;obtain ⟨c8,H⟩:=H
   have kX:=decide_eq_true c8
   clear c8
   have H':=k0 H
   clear H
   obtain ⟨nu,atP,rfl⟩:=Kd.er aq.z
   obtain ⟨dm,c_⟩:=iN as1 (aD.length:Int)
   obtain ⟨jo,LV,NR,e105,dO,Hj,G7⟩:=b8 (Kd.as4 aq.z).2.2 as1 dm c_
   cases e105
   obtain ⟨aeI,O6,OW,GU⟩:=Kd.att aq.z [] as1 dm (by first|exact c_|exact oD|(have e_:=(Kd.as4 aq.z).1;omega))
   obtain ⟨ak0,rfl,Cr⟩:=OW
   have wF:=GU 0 _ rfl
   rw [Nat.add_zero,show ((Kd.slice 2 (Kd.int .i64))).sz=1 from rfl,Nat.mul_one] at wF
   replace wF:=Option.some.inj (wF.symm.trans dO)
   rw [wF] at Cr
   have abb:=k0 (show Kd.R (Kd.int .i64) 2 _ _ _ _ (ai aD as1) from Cr)
   clear wF Cr
   have avt:=k0 dO
   clear GU O6
   have abx:=k0 G7
   have aa6:=k0 Hj
   clear G7 Hj
   replace dm:=eT dm
   replace c_:=eT c_
   go_wp2
   generalize G5:(.slice LV (ai aD as1).length NR:Value)=RA
   have yF:=k0 G5
   clear G5
   go_loopg [8] k1 (fun kq v8 w'=>∃ (bg:List (List Int)) (cJ:Int),v8=.int .i64 cJ∧af (gF.l1 kq l1 bg as1 cJ=some r)∧af (kq≤k1)∧af (cx w' (.slice (some jo) aD.length atP) as1 RA)∧af (Kd.S (Kd.slice 2 (Kd.int .i64)) 29 w' w.heap.size (fun _=>True) (.slice (some jo) aD.length atP) bg)∧af (w'.heap[ay]?=some (sO as0 bu ak bq 26))∧af (Below w.heap.size w w'))
   case atStart=>exact ⟨(aD),(0),rs,H',⟨Nat.le_refl _⟩,⟨by (with_reducible repeat (first|apply cx.alloc|apply cx.drewN|apply cx.drew));first|exact ⟨_,_,_,rfl,(by first|exact of_eq_true dm|exact eW atD.out|omega),(by first|exact of_eq_true c_|exact ct atD.out|(have h_:=of_eq_true c_;omega)|(have h_:=ct atD.out;omega)),avt.z⟩|(rw [← yF.out];exact ⟨_,_,_,rfl,(by first|exact of_eq_true dm|exact eW atD.out|omega),(by first|exact of_eq_true c_|exact ct atD.out|(have h_:=of_eq_true c_;omega)|(have h_:=ct atD.out;omega)),avt.z⟩)⟩,⟨aS (aq.z)⟩,⟨bk⟩,⟨bl⟩⟩
   case round =>
    clear H'
    obtain ⟨bg,cJ,rfl,HA,bw,atD,aq,aa,HB⟩:=hrel
    have at0:=(Kd.as4 aq.z).1
    rw [at0] at aq
    (try simp only [at0])
    (try simp only [at0] at aa)
    cases gk with
    | zero=>exact absurd HA.z (by simp [gF.l1])
    | succ k2 =>
     have H:=HA.z
     clear HA
     simp only [gF.l1] at H
     by_cases c10:cJ < ((ai bg as1).length:Int)
     case neg =>
      rw [if_neg c10] at H
      have iw:=decide_eq_false c10
      (try simp only [at0] at iw)
      clear c10
      have H':=k0 H
      clear H
      have PT:decide (0≤as1)=true:=decide_eq_true (eW atD.out)
      have PU:decide (as1 < (bg.length:Int))=true:=decide_eq_true (by have h_:=ct atD.out;have e_:=(Kd.as4 aq.z).1;omega)
      obtain ⟨eL,ee⟩:=iN as1 (bg.length:Int)
      obtain ⟨oq,IX,JM,e106,fY,sk,sg⟩:=b8 (Kd.as4 aq.z).2.2 as1 eL ee
      obtain rfl:jo=oq:=(by injection e106)
      obtain ⟨Oc,CD,Cy,we⟩:=Kd.att aq.z [] as1 eL (by first|exact ee|exact oD|(have e_:=(Kd.as4 aq.z).1;omega))
      obtain ⟨Rx,rfl,rB⟩:=Cy
      have aud:=we 0 _ rfl
      rw [Nat.add_zero,show ((Kd.slice 2 (Kd.int .i64))).sz=1 from rfl,Nat.mul_one] at aud
      replace aud:=Option.some.inj (aud.symm.trans fY)
      rw [aud] at rB
      have auu:=k0 (show Kd.R (Kd.int .i64) 2 _ _ _ _ (ai bg as1) from rB)
      clear aud rB
      have aul:=k0 fY
      clear we CD
      have rj:=k0 sg
      have I_:=k0 sk
      clear sg sk
      replace eL:=eT eL
      replace ee:=eT ee
      obtain rfl:=qL atD.out aul.z
      go_wp2
      (try simp only [← at0])
      first|go_roundg k2|((try (have e_:=yF.out;injection e_ with eu kE atp;subst eu atp));go_roundg k2)
      case measure=>have:=as3.z;have:=bw.z;omega
      case rel=>exact ⟨(bg),(wrap64 (as1+1)),rs,H',⟨by have:=as3.z;have:=bw.z;omega⟩,⟨by (try simp only [at0]);(with_reducible repeat (first|apply Kd.gQ|apply Kd.atB|apply Kd.dK));exact aq.z⟩,⟨by (try simp only [at0]);exact bk⟩,⟨bl⟩⟩
     rw [if_pos c10] at H
     have iw:=decide_eq_true c10
     (try simp only [at0] at iw)
     clear c10
     replace H:=iS H;obtain ⟨c11,H⟩:=H
     have kW:=decide_eq_true c11
     clear c11
     replace H:=iS H;obtain ⟨c12,H⟩:=H
     have pg:=decide_eq_true c12
     (try simp only [at0] at pg)
     clear c12
     obtain ⟨xB,yN⟩:=nY ((ai bg as1).set (cJ:Int).toNat (wrap64 ((rd (ai bg as1) cJ) * (rd l1 cJ))):List Int)
     replace H:(gF.l1 k2 l1 (bg.set (as1:Int).toNat xB) as1 (wrap64 (cJ+1)))=some r:=rH yN.z H
     obtain ⟨tY,uo⟩:=nY (bg.set (as1:Int).toNat xB:List (List Int))
     replace H:(gF.l1 k2 l1 tY as1 (wrap64 (cJ+1)))=some r:=rH uo.z H
     have H':=k0 H
     clear H
     have PT:decide (0≤as1)=true:=decide_eq_true (eW atD.out)
     have PU:decide (as1 < (bg.length:Int))=true:=decide_eq_true (by have h_:=ct atD.out;have e_:=(Kd.as4 aq.z).1;omega)
     obtain ⟨eL,ee⟩:=iN as1 (bg.length:Int)
     obtain ⟨oq,IX,JM,e106,fY,sk,sg⟩:=b8 (Kd.as4 aq.z).2.2 as1 eL ee
     obtain rfl:jo=oq:=(by injection e106)
     obtain ⟨Oc,CD,Cy,we⟩:=Kd.att aq.z [] as1 eL (by first|exact ee|exact oD|(have e_:=(Kd.as4 aq.z).1;omega))
     obtain ⟨Rx,rfl,rB⟩:=Cy
     have aud:=we 0 _ rfl
     rw [Nat.add_zero,show ((Kd.slice 2 (Kd.int .i64))).sz=1 from rfl,Nat.mul_one] at aud
     replace aud:=Option.some.inj (aud.symm.trans fY)
     rw [aud] at rB
     have auu:=k0 (show Kd.R (Kd.int .i64) 2 _ _ _ _ (ai bg as1) from rB)
     clear aud rB
     have aul:=k0 fY
     clear we CD
     have rj:=k0 sg
     have I_:=k0 sk
     clear sg sk
     replace eL:=eT eL
     replace ee:=eT ee
     obtain rfl:=qL atD.out aul.z
     try go_wp2
     replace aq:=k0 (Kd.dK aq.z);replace auu:=k0 (Kd.di auu.z);replace aa:=k0 (dg aa.z);replace rj:=k0 (Kd.ij rj.z);replace aul:=k0 ((show (wr.drew).cell? _=some _ from aul.z));replace HB:=k0 (eZ HB.z)
     obtain ⟨jv,jw⟩:=iN cJ ((ai bg as1).length:Int)
     obtain ⟨qA,e107,jt⟩:=Kd.bK (by repeat (first|(with_reducible exact rj.z)|(with_reducible refine Kd.jO ?_ _)|(with_reducible refine Kd.jP ?_ _)|(with_reducible refine Kd.ij ?_)|exact rj.z)) cJ jv jw
     cases e107
     replace jv:=eT jv
     replace jw:=eT jw
     obtain ⟨ia,ic⟩:=iN cJ (l1.length:Int)
     obtain ⟨ux,e108,jH⟩:=Kd.bK iM.z cJ ia ic
     have PL:=jH
     cases e108
     replace jH:=hbc HB jH
     replace ia:=eT ia
     replace ic:=eT ic
     have zl:0≤(cJ:Int):=oD
     have zo:(cJ:Int) < (((ai bg as1).length:Int):Int):=oD
     obtain ⟨afX,gj,U7,VG,afJ,aoq,Sr⟩:=Kd.aun auu.z (by omega)
     (first|cases U7|(injection U7 with atd atk dM;(first|subst atd|(injection atd with atd;subst atd));subst dM;clear atk))
     (first|simp only [add_plain] at jt|skip)
     have ami:=k0 VG
     have aaN:=k0 Sr
     clear VG afJ Sr
     (first|simp only [add_plain] at jt|skip)
     obtain ⟨ahw,agT⟩:=Kd.nA 0 auu.z (cJ:Int) zl zo
     replace zl:=eT zl
     replace zo:=eT zo
     have aha:(as1:Int) < (bg.length:Int):=(by have h_:(as1:Int) < ((bg.length:Int):Int):=oD;first|exact h_|(have e_:=(Kd.as4 aq.z).1;omega)|simpa only [List.length_set,List.length_set] using h_)
     obtain ⟨arP,aoe,agC,afZ,Wo,XO,V1⟩:=Kd.vP aq.z [] (as1:Int) oD (by first|exact aha|(have e_:=(Kd.as4 aq.z).1;omega))
     obtain ⟨asB,rfl,Gy⟩:=afZ
     have Kt:=Wo 0 _ rfl
     rw [Nat.add_zero,show ((Kd.slice 2 (Kd.int .i64))).sz=1 from rfl,Nat.mul_one] at Kt
     replace Kt:=Option.some.inj (Kt.symm.trans aul.z)
     subst Kt
     clear Wo agC
     replace Gy:=(show Kd.R (Kd.int .i64) 2 _ _ _ _ (ai bg as1) from Gy)
     have DS:=Kd.s8 Gy (cJ:Int) (wrap64 ((rd (ai bg as1) cJ) * (rd l1 cJ)))
     have M7:=k0 (tq DS.2 aul.z (vV (XO _ (Gy.1 _ rfl)).2))
     rw [← yN.z] at DS
     have am6:=k0 DS.1
     have MQ:=V1 DS.2 (fun k_ e_=>by injection e_ with e_;subst e_;exact Gy.1 _ rfl) (x':=xB) (Kd.ke DS.1)
     rw [← uo.z] at MQ
     have SP:=k0 MQ
     clear DS MQ V1 XO
     refine atG (n:=13) (S:=fun w'=>w'.cell? ⟨afX,(cJ).toNat,none⟩=some (.int .i64 (rd (ai bg as1) cJ))∧w'.cell? (ux.add (cJ).toNat)=some (.int .i64 (rd l1 cJ))) (ds:=[12]) (ba 13 0) (by kernel_rfl) rfl rfl ⟨jt,(hbc HB PL)⟩ (fun hHeld=>?_);refine jX gF.Im gF.F7 (fun aj bP=>?_)
     generalize wr.drew=vk at aq auu aa rj aul HB aaN SP M7 agT jt jH ahw hHeld ⊢
     refine pu 0 (some 27) (ba 13 1) aj (h:=?_)
     refine pu 1 (some 28) (ba 13 3) aj (h:=?_)
     refine pu 2 (some 29) (ba 13 7) aj (h:=?_)
     refine pu 3 (some 30) (ba 13 15) aj (h:=?_)
     refine pu 4 (some 31) (ba 13 31) aj (h:=?_)
     refine pu 6 (some 33) (ba 13 95) aj (h:=?_)
     refine pu 7 (some 34) (ba 13 223) aj (h:=?_)
     refine pu 8 (some 35) (ba 13 479) aj (h:=?_)
     refine t_ 5 (some 32) (ba 13 511) aj bP hHeld (h:=?_)
     refine t_ 9 (some 36) (ba 13 1023) aj bP hHeld (h:=?_)
     refine pu 10 (some 37) (ba 13 2047) aj (h:=?_)
     refine pu 11 (some 38) (ba 13 4095) aj (h:=?_)
     refine oK (i:=12) (N:=none) (ba 13 8191) rfl rfl (atq aj.out (by kernel_rfl)) (by decide) (fun K hK=>?_)
     refine lf (w1:=?_) (by rfl) rfl ?_ ?_
     rotate_left;· go_simp;rfl
     refine hK.out _ _ ?_
     clear hK K
     refine gY (jU aj.out (by kernel_rfl)) ?_
     try go_wp2
     (try simp only [← at0])
     first|go_roundg k2|((try (have e_:=yF.out;injection e_ with eu kE atp;subst eu atp));go_roundg k2)
     case measure=>have:=as3.z;have:=bw.z;omega
     case rel=>exact ⟨(tY),(wrap64 (cJ+1)),rs,H',⟨by have:=as3.z;have:=bw.z;omega⟩,⟨by (with_reducible repeat (first|apply cx.alloc|apply cx.drewN|apply cx.drew));first|exact ⟨_,_,_,rfl,(by first|exact of_eq_true eL|exact eW atD.out|omega),(by first|exact of_eq_true ee|exact ct atD.out|(have h_:=of_eq_true ee;omega)|(have h_:=ct atD.out;omega)),M7.z⟩|(rw [← yF.out];exact ⟨_,_,_,rfl,(by first|exact of_eq_true eL|exact eW atD.out|omega),(by first|exact of_eq_true ee|exact ct atD.out|(have h_:=of_eq_true ee;omega)|(have h_:=ct atD.out;omega)),M7.z⟩)⟩,⟨by (try simp only [at0]);(with_reducible repeat (first|apply Kd.gQ|apply Kd.atB|apply Kd.dK));exact SP.out⟩,⟨by (try simp only [at0]);(with_reducible repeat (first|refine o_ ?_ _|refine dg ?_|refine atW ?_ _));refine yU ?_ (by have h_:=Kd.jh auu.z aa.z (by decide);intro e_;exact h_ (by rw [e_];rfl)) _;exact bk⟩,⟨aL HB.z⟩⟩
end Go.Proofs.Ytapnggjaeehpdaa.B
/- Set with little white space, by a program. -/
