/- The functions that one law reaches, each as a Lean function, and that Go's call comes to what it says. Condition of each: that the Lean function answers (is not none). -/
import Derived.Test.YtoebojnhchocaaaGx0
namespace Go.Proofs.Ytoebojnhchocaaa.G
open Go.RowKit Go.Proofs.cx.fq Go.Proofs.cx.jX Go.Proofs.cx.lu
attribute [local go_sem] max2_int min2_int max_two min_two max_three min_three max_four min_four   -- for this text's walks alone
set_option linter.unusedVariables false
set_option linter.unusedSimpArgs false
set_option maxHeartbeats 8000000
set_option maxRecDepth 100000
/-! ### F201: function 201 -/
def zF.f (au:Int) (ah:List (List Int)) (a1:Int):Option (Int × Int):=if 0≤(wrap64 (Int.tdiv a1 2)) then (if (wrap64 (Int.tdiv a1 2)) < (ah.length:Int) then (if (Int.tmod a1 2)=1 then (if 1 < ((ai ah (wrap64 (Int.tdiv a1 2))).length:Int) then (if 0 < ((ai ah (wrap64 (Int.tdiv a1 2))).length:Int) then (some (rd (ai ah (wrap64 (Int.tdiv a1 2))) 1,rd (ai ah (wrap64 (Int.tdiv a1 2))) 0)) else (none)) else (none)) else (if 0 < ((ai ah (wrap64 (Int.tdiv a1 2))).length:Int) then (if 1 < ((ai ah (wrap64 (Int.tdiv a1 2))).length:Int) then (some (rd (ai ah (wrap64 (Int.tdiv a1 2))) 0,rd (ai ah (wrap64 (Int.tdiv a1 2))) 1)) else (none)) else (none))) else (none)) else (none)
theorem zF.calls (au : Int) (bJ : Option Addr) (bI : Nat) (ah : List (List Int)) (a1 : Int) (r1 : Int) (r2 : Int) (w : World) (eS : Kd.C (Kd.slice 2 (Kd.int .i64)) w bJ ah.length ah) (eY : ah.length ≤ bI) (h : zF.f au ah a1 = some (r1, r2)) :
  Calls Try.prog 201 #[.agg #[.int .i64 au,.slice bJ ah.length bI],.int .i64 a1] w fun e w'=>e=.returned (.tuple #[.int .i64 r1,.int .i64 r2])∧Below w.heap.size w w':=by
 have jS:=Try.underlying31
 have dP:=k0 eS
 have f_:=k0 eY
 clear eS eY
 have HB:=k0 (Below.refl w.heap.size w)
 have H:(if 0≤(wrap64 (Int.tdiv a1 2)) then (if (wrap64 (Int.tdiv a1 2)) < (ah.length:Int) then (if (Int.tmod a1 2)=1 then (if 1 < ((ai ah (wrap64 (Int.tdiv a1 2))).length:Int) then (if 0 < ((ai ah (wrap64 (Int.tdiv a1 2))).length:Int) then (some (rd (ai ah (wrap64 (Int.tdiv a1 2))) 1,rd (ai ah (wrap64 (Int.tdiv a1 2))) 0)) else (none)) else (none)) else (if 0 < ((ai ah (wrap64 (Int.tdiv a1 2))).length:Int) then (if 1 < ((ai ah (wrap64 (Int.tdiv a1 2))).length:Int) then (some (rd (ai ah (wrap64 (Int.tdiv a1 2))) 0,rd (ai ah (wrap64 (Int.tdiv a1 2))) 1)) else (none)) else (none))) else (none)) else (none))=some (r1,r2):=h
 clear h
 obtain ⟨cy,mo⟩:∃ j_:Int,(wrap64 (Int.tdiv a1 2))=j_:=⟨_,rfl⟩
 replace H:(if 0≤(cy) then (if (cy) < (ah.length:Int) then (if (Int.tmod a1 2)=1 then (if 1 < ((ai ah (cy)).length:Int) then (if 0 < ((ai ah (cy)).length:Int) then (some (rd (ai ah (cy)) 1,rd (ai ah (cy)) 0)) else (none)) else (none)) else (if 0 < ((ai ah (cy)).length:Int) then (if 1 < ((ai ah (cy)).length:Int) then (some (rd (ai ah (cy)) 0,rd (ai ah (cy)) 1)) else (none)) else (none))) else (none)) else (none))=some (r1,r2):=by first|(rw [mo] at H;exact H)|(simp only [mo] at H ⊢;exact H)
 have Rc:(IntKind.i64.wrap (Int.tdiv a1 2))=cy:=(dX _).trans mo
 replace H:=iS H;obtain ⟨c4,H⟩:=H
 have gT:=decide_eq_true c4
 clear c4
 replace H:=iS H;obtain ⟨c5,H⟩:=H
 have aoo:=decide_eq_true c5
 clear c5
 by_cases c6:(Int.tmod a1 2)=1
 case neg =>
  rw [if_neg c6] at H
  have iD:((Int.tmod a1 2) == 1)=false:=beq_eq_false_iff_ne.mpr c6
  have oF:((Int.tmod a1 2) != 1)=true:=bne_iff_ne.mpr c6
  replace H:=iS H;obtain ⟨c11,H⟩:=H
  have lS:=decide_eq_true c11
  have uv:decide (0 < (ai ah (cy)).length)=true:=decide_eq_true (by omega)
  clear c11
  replace H:=iS H;obtain ⟨c12,H⟩:=H
  have p6:=decide_eq_true c12
  have EU:decide (1 < (ai ah (cy)).length)=true:=decide_eq_true (by omega)
  clear c12
  simp only [Option.some.injEq,Prod.mk.injEq] at H
  obtain ⟨rfl,rfl⟩:=H
  go_enter Try.func201,Try.ntmps201
  go_wp2_with (first|((with_reducible refine bN (N:=2) rfl ?_);refine cE 2 #[.int .i64 au,.slice bJ ah.length bI] 31 ?_;intro aW hg wP aG hb;have aa:=k0 (aG);have cu:=gW hg (anG bl);have anQ:=cu;replace HB:=k0 (anH bl hb);clear hb aG hg;have xY:=aX aa;have xZ:=aY aa;have ape:=bF aa 0;have apf:=bF aa 1;have eI:0≤((cy):Int):=oD;have eK:(cy) < (ah.length:Int):=oD;obtain ⟨nV,Bc,BZ,e102,jD,aoE,aoD⟩:=fu dP.z (cy) eI eK;cases e102;replace jD:=hbc HB jD;have nP:=k0 aoD;have Bv:=k0 aoE;clear aoD aoE;replace eI:=eq_true eI;replace eK:=eq_true eK;have fW:0≤(0:Int):=(by omega);have fX:0 < ((ai ah (cy)).length:Int):=oD;obtain ⟨mb,e105,fL⟩:=Kd.cm nP.z 0 fW fX;cases e105;have apz:(0 < (ai ah (cy)).length)=True:=eq_true (by omega);(try rw [show ((0:Int)).toNat=0 from rfl] at fL);(try rw [Addr.add_zero'] at fL);replace fL:=hbc HB fL;replace fW:=eq_true fW;replace fX:=eq_true fX;have ji:0≤(1:Int):=(by omega);have jk:1 < ((ai ah (cy)).length:Int):=oD;obtain ⟨lB,e106,gz⟩:=Kd.cm nP.z 1 ji jk;obtain rfl:mb=lB:=(by injection e106);(try simp only [show (1:Int).toNat=1 from rfl,Nat.reduceMul,Nat.reduceEqDiff,Go.Addr.add,↓reduceIte] at gz);have DQ:(1 < (ai ah (cy)).length)=True:=eq_true (by omega);(try rw [show ((1:Int)).toNat=1 from rfl] at gz);replace gz:=hbc HB gz;replace ji:=eq_true ji;replace jk:=eq_true jk))
  repeat (go_quiet (first|((with_reducible refine bN (N:=2) rfl ?_);refine cE 2 #[.int .i64 au,.slice bJ ah.length bI] 31 ?_;intro aW hg wP aG hb;have aa:=k0 (aG);have cu:=gW hg (anG bl);have anQ:=cu;replace HB:=k0 (anH bl hb);clear hb aG hg;have xY:=aX aa;have xZ:=aY aa;have ape:=bF aa 0;have apf:=bF aa 1;have eI:0≤((cy):Int):=oD;have eK:(cy) < (ah.length:Int):=oD;obtain ⟨nV,Bc,BZ,e102,jD,aoE,aoD⟩:=fu dP.z (cy) eI eK;cases e102;replace jD:=hbc HB jD;have nP:=k0 aoD;have Bv:=k0 aoE;clear aoD aoE;replace eI:=eq_true eI;replace eK:=eq_true eK;have fW:0≤(0:Int):=(by omega);have fX:0 < ((ai ah (cy)).length:Int):=oD;obtain ⟨mb,e105,fL⟩:=Kd.cm nP.z 0 fW fX;cases e105;have apz:(0 < (ai ah (cy)).length)=True:=eq_true (by omega);(try rw [show ((0:Int)).toNat=0 from rfl] at fL);(try rw [Addr.add_zero'] at fL);replace fL:=hbc HB fL;replace fW:=eq_true fW;replace fX:=eq_true fX;have ji:0≤(1:Int):=(by omega);have jk:1 < ((ai ah (cy)).length:Int):=oD;obtain ⟨lB,e106,gz⟩:=Kd.cm nP.z 1 ji jk;obtain rfl:mb=lB:=(by injection e106);(try simp only [show (1:Int).toNat=1 from rfl,Nat.reduceMul,Nat.reduceEqDiff,Go.Addr.add,↓reduceIte] at gz);have DQ:(1 < (ai ah (cy)).length)=True:=eq_true (by omega);(try rw [show ((1:Int)).toNat=1 from rfl] at gz);replace gz:=hbc HB gz;replace ji:=eq_true ji;replace jk:=eq_true jk));try go_wp2_with (first|((with_reducible refine bN (N:=2) rfl ?_);refine cE 2 #[.int .i64 au,.slice bJ ah.length bI] 31 ?_;intro aW hg wP aG hb;have aa:=k0 (aG);have cu:=gW hg (anG bl);have anQ:=cu;replace HB:=k0 (anH bl hb);clear hb aG hg;have xY:=aX aa;have xZ:=aY aa;have ape:=bF aa 0;have apf:=bF aa 1;have eI:0≤((cy):Int):=oD;have eK:(cy) < (ah.length:Int):=oD;obtain ⟨nV,Bc,BZ,e102,jD,aoE,aoD⟩:=fu dP.z (cy) eI eK;cases e102;replace jD:=hbc HB jD;have nP:=k0 aoD;have Bv:=k0 aoE;clear aoD aoE;replace eI:=eq_true eI;replace eK:=eq_true eK;have fW:0≤(0:Int):=(by omega);have fX:0 < ((ai ah (cy)).length:Int):=oD;obtain ⟨mb,e105,fL⟩:=Kd.cm nP.z 0 fW fX;cases e105;have apz:(0 < (ai ah (cy)).length)=True:=eq_true (by omega);(try rw [show ((0:Int)).toNat=0 from rfl] at fL);(try rw [Addr.add_zero'] at fL);replace fL:=hbc HB fL;replace fW:=eq_true fW;replace fX:=eq_true fX;have ji:0≤(1:Int):=(by omega);have jk:1 < ((ai ah (cy)).length:Int):=oD;obtain ⟨lB,e106,gz⟩:=Kd.cm nP.z 1 ji jk;obtain rfl:mb=lB:=(by injection e106);(try simp only [show (1:Int).toNat=1 from rfl,Nat.reduceMul,Nat.reduceEqDiff,Go.Addr.add,↓reduceIte] at gz);have DQ:(1 < (ai ah (cy)).length)=True:=eq_true (by omega);(try rw [show ((1:Int)).toNat=1 from rfl] at gz);replace gz:=hbc HB gz;replace ji:=eq_true ji;replace jk:=eq_true jk)))
  go_ret2
  exact ⟨by first|rfl|(simp [qa,qb]<;>rfl)|(simp only [← mo];first|rfl|(simp [qa,qb]<;>rfl))|(simp [*,qa,qb]<;>rfl),bl⟩
 rw [if_pos c6] at H
 have iD:((Int.tmod a1 2) == 1)=true:=beq_iff_eq.mpr c6
 have oF:((Int.tmod a1 2) != 1)=false:=bne_eq_false_iff_eq.mpr c6
 clear c6
 replace H:=iS H;obtain ⟨c7,H⟩:=H
 have o7:=decide_eq_true c7
 have ao4:decide (1 < (ai ah (cy)).length)=true:=decide_eq_true (by omega)
 clear c7
 replace H:=iS H;obtain ⟨c8,H⟩:=H
 have p8:=decide_eq_true c8
 have ao5:decide (0 < (ai ah (cy)).length)=true:=decide_eq_true (by omega)
 clear c8
 simp only [Option.some.injEq,Prod.mk.injEq] at H
 obtain ⟨rfl,rfl⟩:=H
 go_enter Try.func201,Try.ntmps201
 go_wp2_with (first|((with_reducible refine bN (N:=2) rfl ?_);refine cE 2 #[.int .i64 au,.slice bJ ah.length bI] 31 ?_;intro aW hg w9 aG hb;have aa:=k0 (aG);have cu:=gW hg (anG bl);have anQ:=cu;replace HB:=k0 (anH bl hb);clear hb aG hg;have xW:=aX aa;have xX:=aY aa;have apc:=bF aa 0;have apd:=bF aa 1;have eI:0≤((cy):Int):=oD;have eK:(cy) < (ah.length:Int):=oD;obtain ⟨nV,Bc,BZ,e102,jD,aoE,aoD⟩:=fu dP.z (cy) eI eK;cases e102;replace jD:=hbc HB jD;have nP:=k0 aoD;have Bv:=k0 aoE;clear aoD aoE;replace eI:=eq_true eI;replace eK:=eq_true eK;have fF:0≤(1:Int):=(by omega);have fG:1 < ((ai ah (cy)).length:Int):=oD;obtain ⟨l_,e103,fR⟩:=Kd.cm nP.z 1 fF fG;cases e103;(try simp only [show (1:Int).toNat=1 from rfl,Nat.reduceMul,Nat.reduceEqDiff,Go.Addr.add,↓reduceIte] at fR);have Tc:(1 < (ai ah (cy)).length)=True:=eq_true (by omega);(try rw [show ((1:Int)).toNat=1 from rfl] at fR);replace fR:=hbc HB fR;replace fF:=eq_true fF;replace fG:=eq_true fG;have eJ:0≤(0:Int):=(by omega);have eL:0 < ((ai ah (cy)).length:Int):=oD;obtain ⟨jY,e104,eF⟩:=Kd.cm nP.z 0 eJ eL;obtain rfl:l_=jY:=(by injection e104);have DP:(0 < (ai ah (cy)).length)=True:=eq_true (by omega);(try rw [show ((0:Int)).toNat=0 from rfl] at eF);(try rw [Addr.add_zero'] at eF);replace eF:=hbc HB eF;replace eJ:=eq_true eJ;replace eL:=eq_true eL))
 repeat (go_quiet (first|((with_reducible refine bN (N:=2) rfl ?_);refine cE 2 #[.int .i64 au,.slice bJ ah.length bI] 31 ?_;intro aW hg w9 aG hb;have aa:=k0 (aG);have cu:=gW hg (anG bl);have anQ:=cu;replace HB:=k0 (anH bl hb);clear hb aG hg;have xW:=aX aa;have xX:=aY aa;have apc:=bF aa 0;have apd:=bF aa 1;have eI:0≤((cy):Int):=oD;have eK:(cy) < (ah.length:Int):=oD;obtain ⟨nV,Bc,BZ,e102,jD,aoE,aoD⟩:=fu dP.z (cy) eI eK;cases e102;replace jD:=hbc HB jD;have nP:=k0 aoD;have Bv:=k0 aoE;clear aoD aoE;replace eI:=eq_true eI;replace eK:=eq_true eK;have fF:0≤(1:Int):=(by omega);have fG:1 < ((ai ah (cy)).length:Int):=oD;obtain ⟨l_,e103,fR⟩:=Kd.cm nP.z 1 fF fG;cases e103;(try simp only [show (1:Int).toNat=1 from rfl,Nat.reduceMul,Nat.reduceEqDiff,Go.Addr.add,↓reduceIte] at fR);have Tc:(1 < (ai ah (cy)).length)=True:=eq_true (by omega);(try rw [show ((1:Int)).toNat=1 from rfl] at fR);replace fR:=hbc HB fR;replace fF:=eq_true fF;replace fG:=eq_true fG;have eJ:0≤(0:Int):=(by omega);have eL:0 < ((ai ah (cy)).length:Int):=oD;obtain ⟨jY,e104,eF⟩:=Kd.cm nP.z 0 eJ eL;obtain rfl:l_=jY:=(by injection e104);have DP:(0 < (ai ah (cy)).length)=True:=eq_true (by omega);(try rw [show ((0:Int)).toNat=0 from rfl] at eF);(try rw [Addr.add_zero'] at eF);replace eF:=hbc HB eF;replace eJ:=eq_true eJ;replace eL:=eq_true eL));try go_wp2_with (first|((with_reducible refine bN (N:=2) rfl ?_);refine cE 2 #[.int .i64 au,.slice bJ ah.length bI] 31 ?_;intro aW hg w9 aG hb;have aa:=k0 (aG);have cu:=gW hg (anG bl);have anQ:=cu;replace HB:=k0 (anH bl hb);clear hb aG hg;have xW:=aX aa;have xX:=aY aa;have apc:=bF aa 0;have apd:=bF aa 1;have eI:0≤((cy):Int):=oD;have eK:(cy) < (ah.length:Int):=oD;obtain ⟨nV,Bc,BZ,e102,jD,aoE,aoD⟩:=fu dP.z (cy) eI eK;cases e102;replace jD:=hbc HB jD;have nP:=k0 aoD;have Bv:=k0 aoE;clear aoD aoE;replace eI:=eq_true eI;replace eK:=eq_true eK;have fF:0≤(1:Int):=(by omega);have fG:1 < ((ai ah (cy)).length:Int):=oD;obtain ⟨l_,e103,fR⟩:=Kd.cm nP.z 1 fF fG;cases e103;(try simp only [show (1:Int).toNat=1 from rfl,Nat.reduceMul,Nat.reduceEqDiff,Go.Addr.add,↓reduceIte] at fR);have Tc:(1 < (ai ah (cy)).length)=True:=eq_true (by omega);(try rw [show ((1:Int)).toNat=1 from rfl] at fR);replace fR:=hbc HB fR;replace fF:=eq_true fF;replace fG:=eq_true fG;have eJ:0≤(0:Int):=(by omega);have eL:0 < ((ai ah (cy)).length:Int):=oD;obtain ⟨jY,e104,eF⟩:=Kd.cm nP.z 0 eJ eL;obtain rfl:l_=jY:=(by injection e104);have DP:(0 < (ai ah (cy)).length)=True:=eq_true (by omega);(try rw [show ((0:Int)).toNat=0 from rfl] at eF);(try rw [Addr.add_zero'] at eF);replace eF:=hbc HB eF;replace eJ:=eq_true eJ;replace eL:=eq_true eL)))
 go_ret2
 exact ⟨by first|rfl|(simp [qa,qb]<;>rfl)|(simp only [← mo];first|rfl|(simp [qa,qb]<;>rfl))|(simp [*,qa,qb]<;>rfl),bl⟩
/-! ### F120: function 120 -/
mutual
def dO.l0 : Nat → List (List Int) → Int → Int → List (List Int) → Option ((List (List Int)))
 | 0,_,_,_,_=>none
 | k+1,x3,x4,iN,iy=>if x4 < iN then (if 0≤iN then (if (iN:Int).toNat≤35184372088832 then (if x3.length < 5864062014805 then (dO.l0 k (x3 ++ [(List.replicate (iN:Int).toNat 0)]) (wrap64 (x4+1)) iN iy) else (none)) else (none)) else (none)) else (dO.l1 k x3 0 iN iy)
def dO.l1 : Nat → List (List Int) → Int → Int → List (List Int) → Option ((List (List Int)))
 | 0,_,_,_,_=>none
 | k+1,x3,x5,iN,iy=>if x5 < (wrap64 (2 * (iy.length:Int))) then ((zF.f iN iy x5).bind fun jI=>(if 0≤jI.1 then (if jI.1 < (x3.length:Int) then (if 0≤jI.2 then (if jI.2 < ((ai x3 jI.1).length:Int) then (dO.l1 k (x3.set (jI.1:Int).toNat ((ai x3 jI.1).set (jI.2:Int).toNat (wrap64 ((rd (ai x3 jI.1) jI.2)+1)))) (wrap64 (x5+1)) iN iy) else (none)) else (none)) else (none)) else (none))) else (some x3)
end
def dO.f (k:Nat) (au:Int) (ah:List (List Int)):Option ((List (List Int))):=dO.l0 k (([]:List (List Int))) 0 au ah
theorem dO.cC : ∀ k, (∀ y0 y1 y2 y3, ag (dO.l0 k y0 y1 y2 y3) (dO.l0 (k + 1) y0 y1 y2 y3)) ∧ (∀ y0 y1 y2 y3, ag (dO.l1 k y0 y1 y2 y3) (dO.l1 (k + 1) y0 y1 y2 y3))
 | 0=>⟨fun _ _ _ _ r h=>by simp [dO.l0] at h,fun _ _ _ _ r h=>by simp [dO.l1] at h⟩
 | k+1=>by
  obtain ⟨a_,ih1⟩:=dO.cC k
  refine ⟨?_, ?_⟩ <;> intros <;> (first | unfold dO.l0 | unfold dO.l1) <;> repeat' first
   | (with_reducible first|exact a_ _ _ _ _|exact ih1 _ _ _ _|exact ag.refl _|exact ag.none _|refine ag.ite ?_ ?_|refine ag.bind ?_ (fun _=>?_))
   | exact a_ _ _ _ _|exact ih1 _ _ _ _|exact ag.none _|refine ag.ite ?_ ?_|refine ag.bind ?_ (fun _=>?_)
theorem dO.mono:∀ a0 a1 k,ag (dO.f k a0 a1) (dO.f (k+1) a0 a1):=by
 intro a0 a1 k
 obtain ⟨a_,ih1⟩:=dO.cC k
 unfold dO.f
 repeat' first
  | (with_reducible first|exact a_ _ _ _ _|exact ih1 _ _ _ _|exact ag.refl _|exact ag.none _|refine ag.ite ?_ ?_|refine ag.bind ?_ (fun _=>?_))
  | exact a_ _ _ _ _|exact ih1 _ _ _ _|exact ag.none _|refine ag.ite ?_ ?_|refine ag.bind ?_ (fun _=>?_)
theorem dO.calls (k : Nat) (au : Int) (bJ : Option Addr) (bI : Nat) (ah : List (List Int)) (r : List (List Int)) (w : World) (eS : Kd.C (Kd.slice 2 (Kd.int .i64)) w bJ ah.length ah) (eY : ah.length ≤ bI) (h : dO.f k au ah = some r) :
  Calls Try.prog 120 #[.agg #[.int .i64 au,.slice bJ ah.length bI]] w fun e w'=>∃ dw:Value,e=.returned (dw)∧Kd.S (Kd.slice 2 (Kd.int .i64)) 28 w' w.heap.size (fun _=>True) dw r∧Below w.heap.size w w':=by
 have jS:=Try.underlying31
 have dP:=k0 eS
 have f_:=k0 eY
 clear eS eY
 have HB:=k0 (Below.refl w.heap.size w)
 have H:(dO.l0 k (([]:List (List Int))) 0 au ah)=some r:=h
 clear h
 obtain ⟨kA,mV⟩:∃ y_:List (List Int),y_=(([]:List (List Int))):=⟨_,rfl⟩
 replace H:(dO.l0 k kA 0 au ah)=some r:=rH mV H
 have aoI:=k0 mV
 clear mV
 have H':=k0 H
 clear H
 go_enter Try.func120,Try.ntmps120
 go_wp2_with (first|((with_reducible refine bN (N:=1) rfl ?_);refine cE 1 #[.int .i64 au,.slice bJ ah.length bI] 31 ?_;intro aW hg w2 aG hb;have aa:=k0 (aG);have cu:=gW hg (anG bl);have anQ:=cu;replace HB:=k0 (anH bl hb);clear hb aG hg)|((with_reducible refine bN (N:=9) rfl ?_);refine Kd.z_ (Kd.slice 2 (Kd.int .i64)) _ 28 ?hg (N:=9) ?hd (xs:=([]:List (List Int))) (inner:=[]) (ok:=fun _=>True) (anX:=fun _=>True) ?hr ?hp (fun _ hk=>hk) trivial (Below.refl _ _) (Nat.le_refl _) (by simp) ?_;(case hd=>rfl);(case hg=>rfl);(case hr=>first|(go_simp;done)|(go_simp;rfl));(case hp=>exact (bu.none _ _));intro iF w3 gG hb c_ dc;clear c_ dc;(first|rw [← aoI.z] at gG|(simp only [Int.reduceToNat] at gG;rw [← aoI.z] at gG));have eP:=k0 (Kd.gD gG (anG bl));replace aa:=kB aa hb;replace HB:=k0 (anH bl hb);clear hb gG))
 go_loopg [3,4] k (fun kq v3 v4 w'=>∃ (anO:List (List Int)) (bD:Int),v4=.int .i64 bD∧ak (dO.l0 kq anO bD au ah=some r)∧ak (kq≤k)∧ak (Kd.S (Kd.slice 2 (Kd.int .i64)) 28 w' w.heap.size (fun _=>True) v3 anO)∧ak (w'.heap[aW]?=some (sO au bJ ah bI 31))∧ak (Below w.heap.size w w'))
 case atStart=>exact ⟨(kA),(0),rs,H',⟨Nat.le_refl _⟩,⟨aS (eP.z)⟩,⟨bk⟩,⟨bl⟩⟩
 case round =>
  clear H'
  obtain ⟨anO,bD,rfl,HA,bH,bh,aa,HB⟩:=hrel
  cases gk with
  | zero=>exact absurd HA.z (by simp [dO.l0])
  | succ k1 =>
   have H:=HA.z
   clear HA
   simp only [dO.l0] at H
   by_cases c5:bD < au
   case neg =>
    rw [if_neg c5] at H
    have aoo:decide (bD < au)=false:=decide_eq_false c5
    clear c5
    have H':=k0 H
    clear H
    have xY:=aX aa
    have xZ:=aY aa
    have ape:=bF aa 0
    have apf:=bF aa 1
    go_wp2
    go_loopg [5] k1 (fun kq v5 w'=>∃ (bU:List (List Int)) (gI:Int),v5=.int .i64 gI∧ak (dO.l1 kq bU gI au ah=some r)∧ak (kq≤k1)∧ak (Kd.S (Kd.slice 2 (Kd.int .i64)) 28 w' w.heap.size (fun _=>True) u3 bU)∧ak (w'.heap[aW]?=some (sO au bJ ah bI 31))∧ak (Below w.heap.size w w'))
    case atStart=>exact ⟨(anO),(0),rs,H',⟨Nat.le_refl _⟩,⟨aS (bh.z)⟩,⟨bk⟩,⟨bl⟩⟩
    case round =>
     clear H'
     obtain ⟨bU,gI,rfl,HA,eo,bh,aa,HB⟩:=hrel
     cases gk with
     | zero=>exact absurd HA.z (by simp [dO.l1])
     | succ k2 =>
      have H:=HA.z
      clear HA
      simp only [dO.l1] at H
      by_cases c15:gI < (wrap64 (2 * (ah.length:Int)))
      case neg =>
       rw [if_neg c15] at H
       have lD:decide (gI < (wrap64 (2 * (ah.length:Int))))=false:=decide_eq_false c15
       clear c15
       obtain rfl:=Option.some.inj H
       have CN:=aX aa
       have CO:=aY aa
       have CV:=bF aa 0
       have CW:=bF aa 1
       go_wp2
       go_ret
       exact ⟨_,eR,by (with_reducible repeat (first|apply Kd.di|apply Kd.dm|apply Kd.cS));exact bh.z,bl⟩
      rw [if_pos c15] at H
      have lD:=decide_eq_true c15
      clear c15
      replace H:=Option.bind_eq_some_iff.mp H
      obtain ⟨⟨t111,t112⟩,vt,H⟩:=H
      replace H:(if 0≤t111 then (if t111 < (bU.length:Int) then (if 0≤t112 then (if t112 < ((ai bU t111).length:Int) then (dO.l1 k2 (bU.set (t111:Int).toNat ((ai bU t111).set (t112:Int).toNat (wrap64 ((rd (ai bU t111) t112)+1)))) (wrap64 (gI+1)) au ah) else (none)) else (none)) else (none)) else (none))=some r:=H
      have qW:=k0 vt
      clear vt
      replace H:=iS H;obtain ⟨c17,H⟩:=H
      have uw:=decide_eq_true c17
      clear c17
      replace H:=iS H;obtain ⟨c18,H⟩:=H
      have Af:=decide_eq_true c18
      clear c18
      replace H:=iS H;obtain ⟨c19,H⟩:=H
      have ux:=decide_eq_true c19
      clear c19
      replace H:=iS H;obtain ⟨c20,H⟩:=H
      have XR:=decide_eq_true c20
      clear c20
      obtain ⟨gN,pJ⟩:∃ y_:List Int,y_=((ai bU t111).set (t112:Int).toNat (wrap64 ((rd (ai bU t111) t112)+1))):=⟨_,rfl⟩
      replace H:(dO.l1 k2 (bU.set (t111:Int).toNat gN) (wrap64 (gI+1)) au ah)=some r:=rH pJ H
      have uk:=k0 pJ
      clear pJ
      obtain ⟨pW,pK⟩:∃ y_:List (List Int),y_=(bU.set (t111:Int).toNat gN):=⟨_,rfl⟩
      replace H:(dO.l1 k2 pW (wrap64 (gI+1)) au ah)=some r:=rH pK H
      have tv:=k0 pK
      clear pK
      have H':=k0 H
      clear H
      have aaN:=aX aa
      have aaO:=aY aa
      have abp:=bF aa 0
      have abq:=bF aa 1
      go_wp2_with (first|((with_reducible refine bS (f:=201) rfl ?_);refine gC (some 33) Try.func201 #[.agg #[.int .i64 au,.slice bJ ah.length bI],.int .i64 gI] ?_;(with_reducible refine (zF.calls au _ _ ah gI t111 t112 _ ?aA ?anD qW.z).mono ?_);(case aA=>exact aC (Kd.dU dP.z HB.z));(case anD=>exact f_.z);rintro e Gq ⟨rfl,hb⟩;refine ⟨_,rfl,?_⟩;replace bh:=k0 (Kd.kn (aS bh.z) hb);replace aa:=kB aa hb;replace HB:=k0 (anH bl hb);obtain ⟨GS,E1,E6⟩:=Kd.eH bh.z;subst E6;have jU:0≤(t111:Int):=oD;have jV:t111 < (bU.length:Int):=oD;obtain ⟨rZ,Bf,xE,e113,kG,sx,sw⟩:=fu (Kd.anY bh.z).2.2 t111 jU jV;cases e113;obtain ⟨IG,xV,xT,su⟩:=Kd.o4 bh.z [] t111 jU (by first|exact jV|exact oD|(have e_:=(Kd.anY bh.z).1;omega));obtain ⟨LP,rfl,pn⟩:=xT;have aou:=su 0 _ rfl;rw [Nat.add_zero,show ((Kd.slice 2 (Kd.int .i64))).sz=1 from rfl,Nat.mul_one] at aou;replace aou:=Option.some.inj (aou.symm.trans kG);rw [aou] at pn;have nN:=k0 (show Kd.R (Kd.int .i64) 2 _ _ _ _ (ai bU t111) from pn);clear aou pn;have vJ:=k0 kG;clear su xV;have nt:=k0 sw;have By:=k0 sx;clear sw sx;replace jU:=eq_true jU;replace jV:=eq_true jV;have lV:0≤(t112:Int):=oD;have lX:t112 < ((ai bU t111).length:Int):=oD;obtain ⟨xx,e114,nE⟩:=Kd.cm (by repeat (first|(with_reducible exact nt.z)|(with_reducible refine Kd.hJ ?_ _)|(with_reducible refine Kd.aoc ?_ _)|(with_reducible refine Kd.gO ?_)|exact nt.z)) t112 lV lX;cases e114;replace lV:=eq_true lV;replace lX:=eq_true lX;have K8:0≤(t112:Int):=oD;have Lq:(t112:Int) < (((ai bU t111).length:Int):Int):=oD;obtain ⟨Jh,wg,xK,Pz,Z0,ahp,Nf⟩:=Kd.vR nN.z (by omega);(first|cases xK|(injection xK with dH jB jA;(first|subst dH|(injection dH with dH;subst dH));subst jA;clear jB));have UU:=k0 Pz;have agd:=k0 Nf;clear Pz Z0 Nf;(first|simp only [add_plain] at nE|skip);obtain ⟨amS,ajj⟩:=Kd.um 0 nN.z (t112:Int) K8 Lq;replace K8:=eq_true K8;replace Lq:=eq_true Lq;have ack:(t111:Int) < (bU.length:Int):=(by have h_:(t111:Int) < ((bU.length:Int):Int):=oD;first|exact h_|(have e_:=(Kd.anY bh.z).1;omega)|simpa only [List.length_set,List.length_set] using h_);obtain ⟨ad0,ahi,aau,Z9,P5,J9,PT⟩:=Kd.xq bh.z [] (t111:Int) oD (by first|exact ack|(have e_:=(Kd.anY bh.z).1;omega));obtain ⟨anr,rfl,Cx⟩:=Z9;have FE:=P5 0 _ rfl;rw [Nat.add_zero,show ((Kd.slice 2 (Kd.int .i64))).sz=1 from rfl,Nat.mul_one] at FE;replace FE:=Option.some.inj (FE.symm.trans vJ.z);subst FE;clear P5 aau;replace Cx:=(show Kd.R (Kd.int .i64) 2 _ _ _ _ (ai bU t111) from Cx);have Hu:=Kd.xo Cx (t112:Int) (wrap64 ((rd (ai bU t111) t112)+1)))|((with_reducible refine Pv (t:=2) (p:=45) rfl ?_);refine Tu (t:=2) (p:=45) (v:=?anx) (w1:=(Gq.setCell ⟨Jh,(t112:Int).toNat,none⟩ (.int .i64 (wrap64 ((rd (ai bU t111) t112)+1))))) ?hg ?ho ?hn ?hr ?_;(case ho=>rfl);(case hg=>rfl);(case hn=>rfl);(case hr=>first|(go_simp;done)|(go_simp;rfl));intro zg hw;have hg:Gq.grownBy zg (some Jh):=(by rw [hw];exact Hu.2);have yy:Kd.R (Kd.int .i64) 2 zg w.heap.size ad0 (.slice (some ⟨Jh,0,none⟩) (ai bU t111).length xE) gN:=(by rw [hw,uk.z];exact Hu.1);have Dj:Kd.S (Kd.slice 2 (Kd.int .i64)) 28 zg w.heap.size (fun _=>True) (.slice (some rZ) bU.length E1) pW:=(by rw [tv.z];exact PT hg (fun k_ e_=>by injection e_ with e_;subst e_;exact Cx.1 _ rfl) (Kd.lg yy));have apj:=Kd.aT yy J9;clear Hu PT;have av:=k0 (Dj);have ax:=k0 (gh (aB aa.z) hg (Kd.iM nN.z aa.z (by decide)));have ay:=k0 (uz hg vJ.z (xI (J9 _ (Cx.1 _ rfl)).2));have anC:=k0 ((by rw [hw];exact az (HB.z) UU.out:Below w.heap.size w zg));have aD:=k0 (apj);have anE:=k0 ((Kd.anT apj).2.1);clear bh;clear aa;clear vJ;clear HB;clear nN;have bh:=av;have aa:=ax;have vJ:=ay;have HB:=anC;have ags:=aD;have ago:=anE;clear av ax ay anC aD anE;clear hg hw Dj yy apj J9))
      go_roundg k2
      case measure=>have:=bH.z;have:=eo.z;omega
      case rel=>exact ⟨(pW),(wrap64 (gI+1)),rs,H',⟨by have:=bH.z;have:=eo.z;omega⟩,⟨aS (bh.z)⟩,⟨bk⟩,⟨bl⟩⟩
   rw [if_pos c5] at H
   have aoo:=decide_eq_true c5
   clear c5
   replace H:=iS H;obtain ⟨c6,H⟩:=H
   have iD:=eq_true c6
   have oF:=decide_eq_true c6
   clear c6
   replace H:=iS H;obtain ⟨c7,H⟩:=H
   have o7:=eq_true c7
   have ao4:=decide_eq_true c7
   clear c7
   obtain ⟨wV,yh⟩:∃ y_:List Int,y_=(List.replicate (au:Int).toNat 0):=⟨_,rfl⟩
   replace H:(if anO.length < 5864062014805 then (dO.l0 k1 (anO ++ [wV]) (wrap64 (bD+1)) au ah) else (none))=some r:=rH yh H
   have EE:=k0 yh
   clear yh
   replace H:=iS H;obtain ⟨c8,H⟩:=H
   have V4:=k0 c8
   clear c8
   obtain ⟨tV,sH⟩:∃ y_:List (List Int),y_=(anO ++ [wV]):=⟨_,rfl⟩
   replace H:(dO.l0 k1 tV (wrap64 (bD+1)) au ah)=some r:=rH sH H
   have apJ:=k0 sH
   clear sH
   have H':=k0 H
   clear H
   have JG:=aX aa
   have JH:=aY aa
   have QS:=bF aa 0
   have JV:=bF aa 1
   go_wp2_with (first|((with_reducible refine bN (N:=19) rfl ?_);refine Kd.H_ (Kd.int .i64) _ 2 rfl (N:=19) rfl 28 _ _ rfl au rfl rfl Try.underlying28 (.int .i64 0) 8 aoj rfl (by decide) (by omega) 0 (ok:=fun _=>True) (anX:=fun _=>True) rfl (fun _ hk=>hk) trivial oD (Nat.le_trans (Nat.mul_le_mul_right _ (oD:au.toNat≤35184372088832)) (by omega)) (Below.refl _ _) (Nat.le_refl _) ?_;intro jm qN AE hb c_ dc;clear c_ dc;(first|rw [← EE.z] at AE|(simp only [Int.reduceToNat] at AE;rw [← EE.z] at AE));replace bh:=k0 (Kd.an6 (aS bh.z) (Kd.aU AE) hb);have jv:=k0 (Kd.cH AE (anG bl));replace aa:=kB aa hb;replace HB:=k0 (anH bl hb);clear hb AE;obtain ⟨MD,OQ,Ze⟩:=Kd.cK jv.z;subst Ze)|((with_reducible refine aoi (b:=.append) (xs:=#[.tmp 16,.tmp 20]) rfl ?_);at_builtin;refine Kd.tA (Kd.slice 2 (Kd.int .i64)) (w0:=w) w.heap.size rfl (.tmp 16) (.tmp 20) 22 28 (.slice none 0 0) 24 rfl Try.underlying22 qI rfl (by decide) (by omega) u3 anO wV [.slice MD wV.length OQ] (fun _=>True) (fun k_=>some k_=(.slice MD wV.length OQ:Value).ownBlock) rfl rfl ?aP (fun k_ b9=>((Kd.aT (ok':=fun k_=>((fun _=>True)) k_∧some k_ ≠ (u3:Value).ownBlock) (Kd.jx (jv.z) (Kd.iR bh.z) (by decide)) (fun k_ hk=>⟨trivial,hk.2⟩))).1 k_ b9.symm) ?aF ?aO ?aB ?aS ?aL ?_;(case aP=>exact Kd.lg (Kd.aT (Kd.oB rfl (Kd.aT (ok':=fun k_=>((fun _=>True)) k_∧some k_ ≠ (u3:Value).ownBlock) (Kd.jx (jv.z) (Kd.iR bh.z) (by decide)) (fun k_ hk=>⟨trivial,hk.2⟩))) (fun _ h_=>h_)));(case aB=>exact bl);(case aF=>exact (fun _ _=>trivial));(case aO=>exact (by (with_reducible repeat (first|apply Kd.di|apply Kd.dm|apply Kd.cS));exact Kd.anW bh.z (fun k_ hk=>⟨trivial,fun e_=>hk.2 e_⟩)));(case aS=>exact (anG bl));(case aL=>have:=V4.out;omega);intro v109 ao0 ho hb hg bz;rw [← apJ.z] at ho;have av:=k0 (gh (aB aa.z) hg (Kd.kD bh.z aa.z (by decide)));have ax:=k0 (hb);have ay:=k0 (ho);clear aa;clear HB;clear bh;clear jv;have aa:=av;have HB:=ax;have rQ:=ay;clear av ax ay;clear ho hb hg bz))
   go_roundg k1
   case measure=>have:=bH.z;omega
   case rel=>exact ⟨(tV),(wrap64 (bD+1)),rs,H',⟨by have:=bH.z;omega⟩,⟨aS (rQ.z)⟩,⟨bk⟩,⟨bl⟩⟩
/-! ### F121: function 121 -/
mutual
def dx.l0 : Nat → List (List Int) → List Int → List Int → Int → Option (List Int)
 | 0,_,_,_,_=>none
 | k+1,x0,x1,x5,x6=>if x6 < (x1.length:Int) then (dx.l1 k x0 x1 x5 x6 0) else (some x5)
def dx.l1 : Nat → List (List Int) → List Int → List Int → Int → Int → Option (List Int)
 | 0,_,_,_,_,_=>none
 | k+1,x0,x1,x5,x6,x7=>if x7≤x6 then (if 0≤x6 then (if x6 < (x1.length:Int) then (if 0≤(rd x1 x6) then (if (rd x1 x6) < (x0.length:Int) then (if 0≤x7 then (if x7 < (x1.length:Int) then (if 0≤(rd x1 x7) then (if (rd x1 x7) < ((ai x0 (rd x1 x6)).length:Int) then (if x5.length < 17592186044416 then (dx.l1 k x0 x1 (x5 ++ [rd (ai x0 (rd x1 x6)) (rd x1 x7)]) x6 (wrap64 (x7+1))) else (none)) else (none)) else (none)) else (none)) else (none)) else (none)) else (none)) else (none)) else (none)) else (dx.l0 k x0 x1 x5 (wrap64 (x6+1)))
end
def dx.f (k:Nat) (l0:List (List Int)) (l1:List Int):Option (List Int):=dx.l0 k l0 l1 (([(l0.length:Int)]:List Int)) 0
theorem dx.cC : ∀ k, (∀ y0 y1 y2 y3, ag (dx.l0 k y0 y1 y2 y3) (dx.l0 (k + 1) y0 y1 y2 y3)) ∧ (∀ y0 y1 y2 y3 y4, ag (dx.l1 k y0 y1 y2 y3 y4) (dx.l1 (k + 1) y0 y1 y2 y3 y4))
 | 0=>⟨fun _ _ _ _ r h=>by simp [dx.l0] at h,fun _ _ _ _ _ r h=>by simp [dx.l1] at h⟩
 | k+1=>by
  obtain ⟨a_,ih1⟩:=dx.cC k
  refine ⟨?_, ?_⟩ <;> intros <;> (first | unfold dx.l0 | unfold dx.l1) <;> repeat' first
   | (with_reducible first|exact a_ _ _ _ _|exact ih1 _ _ _ _ _|exact ag.refl _|exact ag.none _|refine ag.ite ?_ ?_|refine ag.bind ?_ (fun _=>?_))
   | exact a_ _ _ _ _|exact ih1 _ _ _ _ _|exact ag.none _|refine ag.ite ?_ ?_|refine ag.bind ?_ (fun _=>?_)
theorem dx.mono:∀ a0 a1 k,ag (dx.f k a0 a1) (dx.f (k+1) a0 a1):=by
 intro a0 a1 k
 obtain ⟨a_,ih1⟩:=dx.cC k
 unfold dx.f
 repeat' first
  | (with_reducible first|exact a_ _ _ _ _|exact ih1 _ _ _ _ _|exact ag.refl _|exact ag.none _|refine ag.ite ?_ ?_|refine ag.bind ?_ (fun _=>?_))
  | exact a_ _ _ _ _|exact ih1 _ _ _ _ _|exact ag.none _|refine ag.ite ?_ ?_|refine ag.bind ?_ (fun _=>?_)
def dx.T8:Bool × List (List Nat × List Nat):=(true,[([],[]),([],[]),([],[]),([],[]),([2,3],[2,3]),([4],[4]),([1,5],[1,5]),([6],[6]),([],[]),([],[]),([8,9],[8,9]),([10],[10]),([7,11],[7,11]),([12],[12]),([13],[13]),([0,14],[0,14]),([15,15,0,1,2,3,4,5,6,7,8,9,10,11,12,13,14,15],[0,15])])
def dx.B8:List Nat:=[0,0,0,0,12,28,62,126,0,0,768,1792,4094,8190,16382,32767,65535]
theorem dx.LH:fh .any (opsOf Try.f121 8)=dx.T8:=by kernel_rfl
theorem dx.Ir:kN dx.T8.2 dx.B8=true:=by kernel_rfl
theorem dx.calls (k : Nat) (A0 : Option Addr) (c0 : Nat) (l0 : List (List Int)) (A1 : Option Addr) (c1 : Nat) (l1 : List Int) (r : List Int) (w : World) (cL : Kd.C (Kd.slice 2 (Kd.int .i64)) w A0 l0.length l0) (hc0 : l0.length ≤ c0) (jK : Kd.C (Kd.int .i64) w A1 l1.length l1) (jJ : l1.length ≤ c1) (h : dx.f k l0 l1 = some r) :
  Calls Try.prog 121 #[.slice A0 l0.length c0,.slice A1 l1.length c1] w fun e w'=>∃ dw:Value,e=.returned (dw)∧Kd.R (Kd.int .i64) 2 w' w.heap.size (fun _=>True) dw r∧Below w.heap.size w w':=by
 have dh:=k0 cL
 have fI:=k0 hc0
 clear cL hc0
 have iQ:=k0 jK
 have td:=k0 jJ
 clear jK jJ
 have HB:=k0 (Below.refl w.heap.size w)
 have H:(dx.l0 k l0 l1 (([(l0.length:Int)]:List Int)) 0)=some r:=h
 clear h
 obtain ⟨iH,jh⟩:∃ y_:List Int,y_=(([(l0.length:Int)]:List Int)):=⟨_,rfl⟩
 replace H:(dx.l0 k l0 l1 iH 0)=some r:=rH jh H
 have kW:=k0 jh
 clear jh
 have H':=k0 H
 clear H
 go_enter Try.func121,Try.ntmps121
 go_wp2_with (first|((with_reducible refine bN (N:=10) rfl ?_);refine Kd.jd (Kd.int .i64) _ 2 ?hg (N:=10) ?hd (xs:=([(l0.length:Int)]:List Int)) (inner:=[.int .i64 (l0.length:Int)]) (ok:=fun _=>True) (anX:=fun _=>True) ?hr ?hp (fun _ hk=>hk) trivial (Below.refl _ _) (Nat.le_refl _) (by simp) ?_;(case hd=>rfl);(case hg=>rfl);(case hr=>first|(go_simp;done)|(go_simp;rfl));(case hp=>exact (bu.one (show Kd.M (Kd.int .i64) _ _ _ (l0.length:Int) [.int .i64 (l0.length:Int)] from rfl) (bu.none _ _)));intro aoK w3 gG hb c_ dc;clear c_ dc;(first|rw [← kW.z] at gG|(simp only [Int.reduceToNat] at gG;rw [← kW.z] at gG));have jQ:=k0 (Kd.cH gG (anG bl));replace HB:=k0 (anH bl hb);clear hb gG))
 go_loopg [5,6] k (fun kq v5 v6 w'=>∃ (bR:List Int) (eA:Int),v6=.int .i64 eA∧ak (dx.l0 kq l0 l1 bR eA=some r)∧ak (kq≤k)∧ak (Kd.R (Kd.int .i64) 2 w' w.heap.size (fun _=>True) v5 bR)∧ak (Below w.heap.size w w'))
 case atStart=>exact ⟨(iH),(0),rs,H',⟨Nat.le_refl _⟩,⟨aR (jQ.z)⟩,⟨bl⟩⟩
 case round =>
  clear H'
  obtain ⟨bR,eA,rfl,HA,bH,bY,HB⟩:=hrel
  cases gk with
  | zero=>exact absurd HA.z (by simp [dx.l0])
  | succ k1 =>
   have H:=HA.z
   clear HA
   simp only [dx.l0] at H
   by_cases c5:eA < (l1.length:Int)
   case neg =>
    rw [if_neg c5] at H
    have aoo:decide (eA < (l1.length:Int))=false:=decide_eq_false c5
    clear c5
    obtain rfl:=Option.some.inj H
    go_wp2
    go_ret
    exact ⟨_,eR,by (with_reducible repeat (first|apply Kd.b_|apply Kd.bZ|apply Kd.bP));exact bY.z,bl⟩
   rw [if_pos c5] at H
   have aoo:=decide_eq_true c5
   clear c5
   have H':=k0 H
   clear H
   go_wp2
   go_loopg [5,7] k1 (fun kq v5 v7 w'=>∃ (gI:List Int) (eC:Int),v7=.int .i64 eC∧ak (dx.l1 kq l0 l1 gI eA eC=some r)∧ak (kq≤k1)∧ak (Kd.R (Kd.int .i64) 2 w' w.heap.size (fun _=>True) v5 gI)∧ak (Below w.heap.size w w'))
   case atStart=>exact ⟨(bR),(0),rs,H',⟨Nat.le_refl _⟩,⟨aR (bY.z)⟩,⟨bl⟩⟩
   case round =>
    clear H'
    obtain ⟨gI,eC,rfl,HA,eo,bY,HB⟩:=hrel
    cases gk with
    | zero=>exact absurd HA.z (by simp [dx.l1])
    | succ k2 =>
     have H:=HA.z
     clear HA
     simp only [dx.l1] at H
     by_cases c6:eC≤eA
     case neg =>
      rw [if_neg c6] at H
      have iD:decide (eC≤eA)=false:=decide_eq_false c6
      clear c6
      have H':=k0 H
      clear H
      go_wp2
      go_roundg k2
      case measure=>have:=bH.z;have:=eo.z;omega
      case rel=>exact ⟨(gI),(wrap64 (eA+1)),rs,H',⟨by have:=bH.z;have:=eo.z;omega⟩,⟨aR (bY.z)⟩,⟨bl⟩⟩
     rw [if_pos c6] at H
     have iD:=decide_eq_true c6
     clear c6
     replace H:=iS H;obtain ⟨c7,H⟩:=H
     have o7:=decide_eq_true c7
     clear c7
     replace H:=iS H;obtain ⟨c8,H⟩:=H
     have p8:=decide_eq_true c8
     clear c8
     replace H:=iS H;obtain ⟨c9,H⟩:=H
     have nY:=decide_eq_true c9
     clear c9
     replace H:=iS H;obtain ⟨c10,H⟩:=H
     have r9:=decide_eq_true c10
     clear c10
     replace H:=iS H;obtain ⟨c11,H⟩:=H
     have lS:=decide_eq_true c11
     clear c11
     replace H:=iS H;obtain ⟨c12,H⟩:=H
     have p6:=decide_eq_true c12
     clear c12
     replace H:=iS H;obtain ⟨c13,H⟩:=H
     have aoJ:=decide_eq_true c13
     clear c13
     replace H:=iS H;obtain ⟨c14,H⟩:=H
     have qC:=decide_eq_true c14
     clear c14
     replace H:=iS H;obtain ⟨c15,H⟩:=H
     have apZ:=k0 c15
     clear c15
     obtain ⟨tV,sH⟩:∃ y_:List Int,y_=(gI ++ [rd (ai l0 (rd l1 eA)) (rd l1 eC)]):=⟨_,rfl⟩
     replace H:(dx.l1 k2 l0 l1 tV eA (wrap64 (eC+1)))=some r:=rH sH H
     have apJ:=k0 sH
     clear sH
     have H':=k0 H
     clear H
     try go_wp2
     replace bY:=k0 (Kd.bP bY.z);replace HB:=k0 (anS HB.z)
     have eJ:0≤(eA:Int):=oD
     have eL:eA < (l1.length:Int):=oD
     obtain ⟨jY,e104,eF⟩:=Kd.cm iQ.z eA eJ eL
     have FI:=eF
     cases e104
     replace eF:=hbc HB eF
     replace eJ:=eq_true eJ
     replace eL:=eq_true eL
     have fW:0≤((rd l1 eA):Int):=oD
     have fX:(rd l1 eA) < (l0.length:Int):=oD
     obtain ⟨mb,Ug,Ou,e105,fL,C9,C2⟩:=fu dh.z (rd l1 eA) fW fX
     have FJ:=fL
     cases e105
     replace fL:=hbc HB fL
     have apb:=k0 C2
     have U':=k0 C9
     clear C2 C9
     replace fW:=eq_true fW
     replace fX:=eq_true fX
     have ji:0≤(eC:Int):=oD
     have jk:eC < (l1.length:Int):=oD
     obtain ⟨lB,e106,gz⟩:=Kd.cm iQ.z eC ji jk
     have uO:=gz
     obtain rfl:jY=lB:=(by injection e106)
     replace gz:=hbc HB gz
     replace ji:=eq_true ji
     replace jk:=eq_true jk
     have jM:0≤((rd l1 eC):Int):=oD
     have jN:(rd l1 eC) < ((ai l0 (rd l1 eA)).length:Int):=oD
     obtain ⟨lR,e107,jL⟩:=Kd.cm apb.z (rd l1 eC) jM jN
     have tK:=jL
     cases e107
     replace jL:=hbc HB jL
     replace jM:=eq_true jM
     replace jN:=eq_true jN
     refine oO (n:=17) (S:=fun w'=>w'.cell? (jY.add (eA).toNat)=some (.int .i64 (rd l1 eA))∧w'.cell? (mb.add ((rd l1 eA)).toNat)=some (.slice (some lR) (ai l0 (rd l1 eA)).length Ou)∧w'.cell? (jY.add (eC).toNat)=some (.int .i64 (rd l1 eC))∧w'.cell? (lR.add ((rd l1 eC)).toNat)=some (.int .i64 (rd (ai l0 (rd l1 eA)) (rd l1 eC)))) (ds:=[]) (ba 17 0) (by kernel_rfl) rfl rfl ⟨(hbc HB FI),(hbc HB FJ),(hbc HB uO),(hbc HB tK)⟩ (fun hHeld=>?_);refine qt dx.LH dx.Ir (fun anM eE=>?_)
     generalize wr.drew=DX at bY HB apb eF fL gz jL hHeld ⊢
     refine pu 0 (some 22) (ba 17 1) anM (h:=?_)
     refine pu 1 (some 23) (ba 17 3) anM (h:=?_)
     refine pu 2 (some 24) (ba 17 7) anM (h:=?_)
     refine pu 3 (some 25) (ba 17 15) anM (h:=?_)
     refine pu 4 (some 26) (ba 17 31) anM (h:=?_)
     refine pu 8 (some 30) (ba 17 287) anM (h:=?_)
     refine pu 9 (some 31) (ba 17 799) anM (h:=?_)
     refine pu 10 (some 32) (ba 17 1823) anM (h:=?_)
     refine ta 5 (some 27) (ba 17 1855) anM eE hHeld (hy:=Or.inl ⟨by rfl,by rintro w' ⟨s0,s1,s2,s3⟩;go_simp;with_reducible rfl⟩) (h:=?_)
     refine pu 6 (some 28) (ba 17 1919) anM (h:=?_)
     refine ta 7 (some 29) (ba 17 2047) anM eE hHeld (hy:=Or.inl ⟨by rfl,by rintro w' ⟨s0,s1,s2,s3⟩;go_simp;with_reducible rfl⟩) (h:=?_)
     refine ta 11 (some 33) (ba 17 4095) anM eE hHeld (hy:=Or.inl ⟨by rfl,by rintro w' ⟨s0,s1,s2,s3⟩;go_simp;with_reducible rfl⟩) (h:=?_)
     refine pu 12 (some 34) (ba 17 8191) anM (h:=?_)
     refine ta 13 (some 35) (ba 17 16383) anM eE hHeld (hy:=Or.inl ⟨by rfl,by rintro w' ⟨s0,s1,s2,s3⟩;go_simp;with_reducible rfl⟩) (h:=?_)
     refine nF (i:=14) (N:=some 36) (ba 17 32767) rfl rfl (j7 anM.out (by kernel_rfl)) (by decide) (fun K hK=>?_)
     refine ao2 (w1:=?_) (v:=?_) (by rfl) rfl ?_ ?_
     rotate_left 2
     ·go_simp
      constructor
      ·rfl
      ·rfl
     refine hK.out _ _ ⟨(World.cell?_alloc_lt _ _ _ (World.block_lt_of_cell? _ _ ((hbc HB FI)))).trans ((hbc HB FI)),(World.cell?_alloc_lt _ _ _ (World.block_lt_of_cell? _ _ ((hbc HB FJ)))).trans ((hbc HB FJ)),(World.cell?_alloc_lt _ _ _ (World.block_lt_of_cell? _ _ ((hbc HB uO)))).trans ((hbc HB uO)),(World.cell?_alloc_lt _ _ _ (World.block_lt_of_cell? _ _ ((hbc HB tK)))).trans ((hbc HB tK))⟩ (fun hHeld=>?_)
     clear hK K
     refine mY (a':=?_) ?_ ?_
     rotate_left;· show Act.put _ (some 36) _=_;simp only [Act.put,zI,zZ,zS,dX,eZ];rfl
     refine nF (i:=15) (N:=some 37) (ba 17 65535) rfl rfl (j7 anM.out (by kernel_rfl)) (by decide) (fun K hK=>?_)
     refine Kd.H6 (Kd.int .i64) (w0:=w) w.heap.size (by rfl) (.tmp 22) (.tmp 36) 28 2 (.int .i64 0) 8 rfl Try.underlying28 aoj rfl (by decide) (by omega) u5 gI (rd (ai l0 (rd l1 eA)) (rd l1 eC)) [.int .i64 (rd (ai l0 (rd l1 eA)) (rd l1 eC))] (fun _=>True) (fun _=>False) rfl rfl ?aP (fun _ hk=>hk.elim) ?aF ?aO ?aB ?aS ?aL ?_
     (case aP=>exact rfl)
     (case aB=>exact bl)
     (case aF=>exact (fun _ _=>trivial))
     (case aO=>exact (aR bY.z))
     (case aS=>exact (anG bl))
     (case aL=>have:=apZ.out;omega)
     intro v109 DY ho hb hg bz
     rw [← apJ.z] at ho
     have av:=k0 (hb)
     have ax:=k0 (ho)
     clear HB
     clear bY
     have HB:=av
     have rQ:=ax
     clear av ax
     clear ho hb hg bz
     refine hK.out _ _ ⟨(hbc HB FI),(hbc HB FJ),(hbc HB uO),(hbc HB tK)⟩ (fun hHeld=>?_)
     clear hK K
     refine mY (a':=?_) ?_ ?_
     rotate_left;· show Act.put _ (some 37) _=_;simp only [Act.put,zI,zZ,zS,dX,eZ];rfl
     refine pu 16 (some 5) (ba 17 131071) anM (h:=?_)
     refine o_ (qF anM.out (by kernel_rfl)) ?_
     try go_wp2
     go_roundg k2
     case measure=>have:=bH.z;have:=eo.z;omega
     case rel=>exact ⟨(tV),(wrap64 (eC+1)),rs,H',⟨by have:=bH.z;have:=eo.z;omega⟩,⟨aR (rQ.z)⟩,⟨bl⟩⟩
/-! ### F122: function 122 -/
def iP.l0 : Nat → List Int → List Int → Int → Option (Bool)
 | 0,_,_,_=>none
 | k+1,x0,x1,x5=>if x5 < (x0.length:Int) then (if 0≤x5 then (if x5 < (x1.length:Int) then (if (rd x0 x5)=(rd x1 x5) then (iP.l0 k x0 x1 (wrap64 (x5+1))) else (some (decide ((rd x0 x5) < (rd x1 x5))))) else (none)) else (none)) else (some false)
def iP.f (k:Nat) (l0:List Int) (l1:List Int):Option (Bool):=iP.l0 k l0 l1 0
theorem iP.cC : ∀ k, (∀ y0 y1 y2, ag (iP.l0 k y0 y1 y2) (iP.l0 (k + 1) y0 y1 y2))
 | 0=>fun _ _ _ r h=>by simp [iP.l0] at h
 | k+1=>by
  have a_:=iP.cC k
  ·intro y0 y1 y2
   unfold iP.l0
   repeat' first
    | (with_reducible first|exact a_ _ _ _|exact ag.refl _|exact ag.none _|refine ag.ite ?_ ?_|refine ag.bind ?_ (fun _=>?_))
    | exact a_ _ _ _|exact ag.none _|refine ag.ite ?_ ?_|refine ag.bind ?_ (fun _=>?_)
theorem iP.mono:∀ a0 a1 k,ag (iP.f k a0 a1) (iP.f (k+1) a0 a1):=by
 intro a0 a1 k
 have a_:=iP.cC k
 unfold iP.f
 repeat' first
  | (with_reducible first|exact a_ _ _ _|exact ag.refl _|exact ag.none _|refine ag.ite ?_ ?_|refine ag.bind ?_ (fun _=>?_))
  | exact a_ _ _ _|exact ag.none _|refine ag.ite ?_ ?_|refine ag.bind ?_ (fun _=>?_)
theorem iP.calls (k : Nat) (A0 : Option Addr) (c0 : Nat) (l0 : List Int) (A1 : Option Addr) (c1 : Nat) (l1 : List Int) (r : Bool) (w : World) (cL : Kd.C (Kd.int .i64) w A0 l0.length l0) (hc0 : l0.length ≤ c0) (jK : Kd.C (Kd.int .i64) w A1 l1.length l1) (jJ : l1.length ≤ c1) (h : iP.f k l0 l1 = some r) :
  Calls Try.prog 122 #[.slice A0 l0.length c0,.slice A1 l1.length c1] w fun e w'=>e=.returned (.bool r)∧aod w w':=by
 have dh:=k0 cL
 have fI:=k0 hc0
 clear cL hc0
 have iQ:=k0 jK
 have td:=k0 jJ
 clear jK jJ
 have H:(iP.l0 k l0 l1 0)=some r:=h
 clear h
 have H':=k0 H
 clear H
 go_enter Try.func122,Try.ntmps122
 go_wp2
 repeat (go_quiet (fail);try go_wp2)
 go_loopg [5] k (fun kq v5 w'=>∃ (bR:Int),v5=.int .i64 bR∧ak (iP.l0 kq l0 l1 bR=some r)∧ak (kq≤k)∧aod w w')
 case atStart=>exact ⟨(0),rs,H',⟨Nat.le_refl _⟩,dW⟩
 case round =>
  clear H'
  obtain ⟨bR,rfl,HA,bH,⟨m1,rfl⟩⟩:=hrel
  cases gk with
  | zero=>exact absurd HA.z (by simp [iP.l0])
  | succ k1 =>
   have H:=HA.z
   clear HA
   simp only [iP.l0] at H
   by_cases c3:bR < (l0.length:Int)
   case neg =>
    rw [if_neg c3] at H
    have jZ:decide (bR < (l0.length:Int))=false:=decide_eq_false c3
    clear c3
    obtain rfl:=Option.some.inj H
    go_wp2
    repeat (go_quiet (fail);try go_wp2)
    go_ret
    exact ⟨rs,dW⟩
   rw [if_pos c3] at H
   have jZ:=decide_eq_true c3
   clear c3
   replace H:=iS H;obtain ⟨c4,H⟩:=H
   have gT:=decide_eq_true c4
   clear c4
   replace H:=iS H;obtain ⟨c5,H⟩:=H
   have aoo:=decide_eq_true c5
   clear c5
   by_cases c6:(rd l0 bR)=(rd l1 bR)
   case neg =>
    rw [if_neg c6] at H
    have iD:((rd l0 bR) == (rd l1 bR))=false:=beq_eq_false_iff_ne.mpr c6
    have oF:((rd l0 bR) != (rd l1 bR))=true:=bne_iff_ne.mpr c6
    obtain rfl:=Option.some.inj H
    have ep:0≤(bR:Int):=oD
    have er:bR < (l0.length:Int):=oD
    obtain ⟨lA,e101,kF⟩:=Kd.cm dh.z bR ep er
    cases e101
    replace ep:=eq_true ep
    replace er:=eq_true er
    have eI:0≤(bR:Int):=oD
    have eK:bR < (l1.length:Int):=oD
    obtain ⟨nV,e102,jD⟩:=Kd.cm iQ.z bR eI eK
    cases e102
    replace eI:=eq_true eI
    replace eK:=eq_true eK
    have fF:0≤(bR:Int):=oD
    have fG:bR < (l0.length:Int):=oD
    obtain ⟨l_,e103,fR⟩:=Kd.cm dh.z bR fF fG
    obtain rfl:lA=l_:=(by injection e103)
    replace fF:=eq_true fF
    replace fG:=eq_true fG
    have eJ:0≤(bR:Int):=oD
    have eL:bR < (l1.length:Int):=oD
    obtain ⟨jY,e104,eF⟩:=Kd.cm iQ.z bR eJ eL
    obtain rfl:nV=jY:=(by injection e104)
    replace eJ:=eq_true eJ
    replace eL:=eq_true eL
    go_wp2
    repeat (go_quiet (fail);try go_wp2)
    go_ret
    exact ⟨rs,dW⟩
   rw [if_pos c6] at H
   have iD:((rd l0 bR) == (rd l1 bR))=true:=beq_iff_eq.mpr c6
   have oF:((rd l0 bR) != (rd l1 bR))=false:=bne_eq_false_iff_eq.mpr c6
   clear c6
   have H':=k0 H
   clear H
   have ep:0≤(bR:Int):=oD
   have er:bR < (l0.length:Int):=oD
   obtain ⟨lA,e101,kF⟩:=Kd.cm dh.z bR ep er
   cases e101
   replace ep:=eq_true ep
   replace er:=eq_true er
   have eI:0≤(bR:Int):=oD
   have eK:bR < (l1.length:Int):=oD
   obtain ⟨nV,e102,jD⟩:=Kd.cm iQ.z bR eI eK
   cases e102
   replace eI:=eq_true eI
   replace eK:=eq_true eK
   go_wp2
   repeat (go_quiet (fail);try go_wp2)
   go_roundg k1
   case measure=>have:=bH.z;omega
   case rel=>exact ⟨(wrap64 (bR+1)),rs,H',⟨by have:=bH.z;omega⟩,dW⟩
end Go.Proofs.Ytoebojnhchocaaa.G
/- Set with little white space, by a program. -/
