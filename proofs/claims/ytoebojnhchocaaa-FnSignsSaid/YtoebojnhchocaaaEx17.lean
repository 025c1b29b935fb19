/- The functions that one law reaches, each as a Lean function, and that Go's call comes to what it says. Condition of each: that the Lean function answers (is not none). -/
import Derived.Test.YtoebojnhchocaaaEx0
import Derived.Test.YtoebojnhchocaaaEx10
namespace Go.Proofs.Ytoebojnhchocaaa.E
open Go.RowKit Go.Proofs.bY.apf Go.Proofs.bY.ko Go.Proofs.bY.kN
attribute [local go_sem] max2_int min2_int max_two min_two max_three min_three max_four min_four   -- for this text's walks alone
set_option linter.unusedVariables false
set_option linter.unusedSimpArgs false
set_option maxHeartbeats 8000000
set_option maxRecDepth 100000
/-! ### F201: function 201 -/
def ap3.f (ah:Int) (af:List (List Int)) (a1:Int):Option (Int × Int):=if 0≤(wrap64 (Int.tdiv a1 2)) then (if (wrap64 (Int.tdiv a1 2)) < (af.length:Int) then (if (Int.tmod a1 2)=1 then (if 1 < ((av af (wrap64 (Int.tdiv a1 2))).length:Int) then (if 0 < ((av af (wrap64 (Int.tdiv a1 2))).length:Int) then (some (rd (av af (wrap64 (Int.tdiv a1 2))) 1,rd (av af (wrap64 (Int.tdiv a1 2))) 0)) else (none)) else (none)) else (if 0 < ((av af (wrap64 (Int.tdiv a1 2))).length:Int) then (if 1 < ((av af (wrap64 (Int.tdiv a1 2))).length:Int) then (some (rd (av af (wrap64 (Int.tdiv a1 2))) 0,rd (av af (wrap64 (Int.tdiv a1 2))) 1)) else (none)) else (none))) else (none)) else (none)
theorem ap3.calls (ah : Int) (aT : Option Addr) (aoW : Nat) (af : List (List Int)) (a1 : Int) (r1 : Int) (r2 : Int) (w : World) (cR : Kd.C (Kd.slice 2 (Kd.int .i64)) w aT af.length af) (cX : af.length ≤ aoW) (h : ap3.f ah af a1 = some (r1, r2)) :
  Calls Try.prog 201 #[.agg #[.int .i64 ah,.slice aT af.length aoW],.int .i64 a1] w fun e w'=>e=.returned (.tuple #[.int .i64 r1,.int .i64 r2])∧Below w.heap.size w w':=by
 have iX:=Try.underlying31
 have ao6:=k0 cR
 have cV:=k0 cX
 clear cR cX
 have HB:=k0 (Below.refl w.heap.size w)
 have H:(if 0≤(wrap64 (Int.tdiv a1 2)) then (if (wrap64 (Int.tdiv a1 2)) < (af.length:Int) then (if (Int.tmod a1 2)=1 then (if 1 < ((av af (wrap64 (Int.tdiv a1 2))).length:Int) then (if 0 < ((av af (wrap64 (Int.tdiv a1 2))).length:Int) then (some (rd (av af (wrap64 (Int.tdiv a1 2))) 1,rd (av af (wrap64 (Int.tdiv a1 2))) 0)) else (none)) else (none)) else (if 0 < ((av af (wrap64 (Int.tdiv a1 2))).length:Int) then (if 1 < ((av af (wrap64 (Int.tdiv a1 2))).length:Int) then (some (rd (av af (wrap64 (Int.tdiv a1 2))) 0,rd (av af (wrap64 (Int.tdiv a1 2))) 1)) else (none)) else (none))) else (none)) else (none))=some (r1,r2):=h
 clear h
 obtain ⟨bQ,lN⟩:∃ j_:Int,(wrap64 (Int.tdiv a1 2))=j_:=⟨_,rfl⟩
 replace H:(if 0≤(bQ) then (if (bQ) < (af.length:Int) then (if (Int.tmod a1 2)=1 then (if 1 < ((av af (bQ)).length:Int) then (if 0 < ((av af (bQ)).length:Int) then (some (rd (av af (bQ)) 1,rd (av af (bQ)) 0)) else (none)) else (none)) else (if 0 < ((av af (bQ)).length:Int) then (if 1 < ((av af (bQ)).length:Int) then (some (rd (av af (bQ)) 0,rd (av af (bQ)) 1)) else (none)) else (none))) else (none)) else (none))=some (r1,r2):=by first|(rw [lN] at H;exact H)|(simp only [lN] at H ⊢;exact H)
 have Lr:(IntKind.i64.wrap (Int.tdiv a1 2))=bQ:=(cm _).trans lN
 replace H:=iS H;obtain ⟨c4,H⟩:=H
 have fX:=decide_eq_true c4
 clear c4
 replace H:=iS H;obtain ⟨c5,H⟩:=H
 have jt:=decide_eq_true c5
 clear c5
 by_cases c6:(Int.tmod a1 2)=1
 case neg =>
  rw [if_neg c6] at H
  have kG:((Int.tmod a1 2) == 1)=false:=beq_eq_false_iff_ne.mpr c6
  have apZ:((Int.tmod a1 2) != 1)=true:=bne_iff_ne.mpr c6
  replace H:=iS H;obtain ⟨c11,H⟩:=H
  have ku:=decide_eq_true c11
  have yh:decide (0 < (av af (bQ)).length)=true:=decide_eq_true (by omega)
  clear c11
  replace H:=iS H;obtain ⟨c12,H⟩:=H
  have qJ:=decide_eq_true c12
  have Gf:decide (1 < (av af (bQ)).length)=true:=decide_eq_true (by omega)
  clear c12
  simp only [Option.some.injEq,Prod.mk.injEq] at H
  obtain ⟨rfl,rfl⟩:=H
  go_enter Try.func201,Try.ntmps201
  go_wp2_with (first|((with_reducible refine bp (N:=2) rfl ?_);refine bR 2 #[.int .i64 ah,.slice aT af.length aoW] 31 ?_;intro aoV hg tK aE hb;have aa:=k0 (aE);have bB:=gW hg (aoS bl);have aX:=bB;replace HB:=k0 (aH bl hb);clear hb aE hg;have yB:=aQ aa;have yC:=aoT aa;have yE:=bF aa 0;have yF:=bF aa 1;have dF:0≤((bQ):Int):=oD;have dG:(bQ) < (af.length:Int):=oD;obtain ⟨nh,vA,vX,e102,gO,jM,jK⟩:=fW ao6.z (bQ) dF dG;cases e102;replace gO:=hbc HB gO;have jq:=k0 jK;have apK:=k0 jM;clear jK jM;replace dF:=eq_true dF;replace dG:=eq_true dG;have gD:0≤(0:Int):=(by omega);have gl:0 < ((av af (bQ)).length:Int):=oD;obtain ⟨lg,e105,gj⟩:=Kd.cN jq.z 0 gD gl;cases e105;have AU:(0 < (av af (bQ)).length)=True:=eq_true (by omega);(try rw [show ((0:Int)).toNat=0 from rfl] at gj);(try rw [Addr.add_zero'] at gj);replace gj:=hbc HB gj;replace gD:=eq_true gD;replace gl:=eq_true gl;have apk:0≤(1:Int):=(by omega);have gL:1 < ((av af (bQ)).length:Int):=oD;obtain ⟨pH,e106,gV⟩:=Kd.cN jq.z 1 apk gL;obtain rfl:lg=pH:=(by injection e106);(try simp only [show (1:Int).toNat=1 from rfl,Nat.reduceMul,Nat.reduceEqDiff,Go.Addr.add,↓reduceIte] at gV);have Ff:(1 < (av af (bQ)).length)=True:=eq_true (by omega);(try rw [show ((1:Int)).toNat=1 from rfl] at gV);replace gV:=hbc HB gV;replace apk:=eq_true apk;replace gL:=eq_true gL))
  repeat (go_quiet (first|((with_reducible refine bp (N:=2) rfl ?_);refine bR 2 #[.int .i64 ah,.slice aT af.length aoW] 31 ?_;intro aoV hg tK aE hb;have aa:=k0 (aE);have bB:=gW hg (aoS bl);have aX:=bB;replace HB:=k0 (aH bl hb);clear hb aE hg;have yB:=aQ aa;have yC:=aoT aa;have yE:=bF aa 0;have yF:=bF aa 1;have dF:0≤((bQ):Int):=oD;have dG:(bQ) < (af.length:Int):=oD;obtain ⟨nh,vA,vX,e102,gO,jM,jK⟩:=fW ao6.z (bQ) dF dG;cases e102;replace gO:=hbc HB gO;have jq:=k0 jK;have apK:=k0 jM;clear jK jM;replace dF:=eq_true dF;replace dG:=eq_true dG;have gD:0≤(0:Int):=(by omega);have gl:0 < ((av af (bQ)).length:Int):=oD;obtain ⟨lg,e105,gj⟩:=Kd.cN jq.z 0 gD gl;cases e105;have AU:(0 < (av af (bQ)).length)=True:=eq_true (by omega);(try rw [show ((0:Int)).toNat=0 from rfl] at gj);(try rw [Addr.add_zero'] at gj);replace gj:=hbc HB gj;replace gD:=eq_true gD;replace gl:=eq_true gl;have apk:0≤(1:Int):=(by omega);have gL:1 < ((av af (bQ)).length:Int):=oD;obtain ⟨pH,e106,gV⟩:=Kd.cN jq.z 1 apk gL;obtain rfl:lg=pH:=(by injection e106);(try simp only [show (1:Int).toNat=1 from rfl,Nat.reduceMul,Nat.reduceEqDiff,Go.Addr.add,↓reduceIte] at gV);have Ff:(1 < (av af (bQ)).length)=True:=eq_true (by omega);(try rw [show ((1:Int)).toNat=1 from rfl] at gV);replace gV:=hbc HB gV;replace apk:=eq_true apk;replace gL:=eq_true gL));try go_wp2_with (first|((with_reducible refine bp (N:=2) rfl ?_);refine bR 2 #[.int .i64 ah,.slice aT af.length aoW] 31 ?_;intro aoV hg tK aE hb;have aa:=k0 (aE);have bB:=gW hg (aoS bl);have aX:=bB;replace HB:=k0 (aH bl hb);clear hb aE hg;have yB:=aQ aa;have yC:=aoT aa;have yE:=bF aa 0;have yF:=bF aa 1;have dF:0≤((bQ):Int):=oD;have dG:(bQ) < (af.length:Int):=oD;obtain ⟨nh,vA,vX,e102,gO,jM,jK⟩:=fW ao6.z (bQ) dF dG;cases e102;replace gO:=hbc HB gO;have jq:=k0 jK;have apK:=k0 jM;clear jK jM;replace dF:=eq_true dF;replace dG:=eq_true dG;have gD:0≤(0:Int):=(by omega);have gl:0 < ((av af (bQ)).length:Int):=oD;obtain ⟨lg,e105,gj⟩:=Kd.cN jq.z 0 gD gl;cases e105;have AU:(0 < (av af (bQ)).length)=True:=eq_true (by omega);(try rw [show ((0:Int)).toNat=0 from rfl] at gj);(try rw [Addr.add_zero'] at gj);replace gj:=hbc HB gj;replace gD:=eq_true gD;replace gl:=eq_true gl;have apk:0≤(1:Int):=(by omega);have gL:1 < ((av af (bQ)).length:Int):=oD;obtain ⟨pH,e106,gV⟩:=Kd.cN jq.z 1 apk gL;obtain rfl:lg=pH:=(by injection e106);(try simp only [show (1:Int).toNat=1 from rfl,Nat.reduceMul,Nat.reduceEqDiff,Go.Addr.add,↓reduceIte] at gV);have Ff:(1 < (av af (bQ)).length)=True:=eq_true (by omega);(try rw [show ((1:Int)).toNat=1 from rfl] at gV);replace gV:=hbc HB gV;replace apk:=eq_true apk;replace gL:=eq_true gL)))
  go_ret2
  exact ⟨by first|rfl|(simp [je,jf]<;>rfl)|(simp only [← lN];first|rfl|(simp [je,jf]<;>rfl))|(simp [*,je,jf]<;>rfl),bl⟩
 rw [if_pos c6] at H
 have kG:((Int.tmod a1 2) == 1)=true:=beq_iff_eq.mpr c6
 have apZ:((Int.tmod a1 2) != 1)=false:=bne_eq_false_iff_eq.mpr c6
 clear c6
 replace H:=iS H;obtain ⟨c7,H⟩:=H
 have oO:=decide_eq_true c7
 have uv:decide (1 < (av af (bQ)).length)=true:=decide_eq_true (by omega)
 clear c7
 replace H:=iS H;obtain ⟨c8,H⟩:=H
 have kH:=decide_eq_true c8
 have qL:decide (0 < (av af (bQ)).length)=true:=decide_eq_true (by omega)
 clear c8
 simp only [Option.some.injEq,Prod.mk.injEq] at H
 obtain ⟨rfl,rfl⟩:=H
 go_enter Try.func201,Try.ntmps201
 go_wp2_with (first|((with_reducible refine bp (N:=2) rfl ?_);refine bR 2 #[.int .i64 ah,.slice aT af.length aoW] 31 ?_;intro aoV hg w9 aE hb;have aa:=k0 (aE);have bB:=gW hg (aoS bl);have aX:=bB;replace HB:=k0 (aH bl hb);clear hb aE hg;have uD:=aQ aa;have uE:=aoT aa;have uF:=bF aa 0;have uG:=bF aa 1;have dF:0≤((bQ):Int):=oD;have dG:(bQ) < (af.length:Int):=oD;obtain ⟨nh,vA,vX,e102,gO,jM,jK⟩:=fW ao6.z (bQ) dF dG;cases e102;replace gO:=hbc HB gO;have jq:=k0 jK;have apK:=k0 jM;clear jK jM;replace dF:=eq_true dF;replace dG:=eq_true dG;have eU:0≤(1:Int):=(by omega);have eV:1 < ((av af (bQ)).length:Int):=oD;obtain ⟨lJ,e103,fF⟩:=Kd.cN jq.z 1 eU eV;cases e103;(try simp only [show (1:Int).toNat=1 from rfl,Nat.reduceMul,Nat.reduceEqDiff,Go.Addr.add,↓reduceIte] at fF);have TF:(1 < (av af (bQ)).length)=True:=eq_true (by omega);(try rw [show ((1:Int)).toNat=1 from rfl] at fF);replace fF:=hbc HB fF;replace eU:=eq_true eU;replace eV:=eq_true eV;have dR:0≤(0:Int):=(by omega);have dS:0 < ((av af (bQ)).length:Int):=oD;obtain ⟨jY,e104,dY⟩:=Kd.cN jq.z 0 dR dS;obtain rfl:lJ=jY:=(by injection e104);have Fe:(0 < (av af (bQ)).length)=True:=eq_true (by omega);(try rw [show ((0:Int)).toNat=0 from rfl] at dY);(try rw [Addr.add_zero'] at dY);replace dY:=hbc HB dY;replace dR:=eq_true dR;replace dS:=eq_true dS))
 repeat (go_quiet (first|((with_reducible refine bp (N:=2) rfl ?_);refine bR 2 #[.int .i64 ah,.slice aT af.length aoW] 31 ?_;intro aoV hg w9 aE hb;have aa:=k0 (aE);have bB:=gW hg (aoS bl);have aX:=bB;replace HB:=k0 (aH bl hb);clear hb aE hg;have uD:=aQ aa;have uE:=aoT aa;have uF:=bF aa 0;have uG:=bF aa 1;have dF:0≤((bQ):Int):=oD;have dG:(bQ) < (af.length:Int):=oD;obtain ⟨nh,vA,vX,e102,gO,jM,jK⟩:=fW ao6.z (bQ) dF dG;cases e102;replace gO:=hbc HB gO;have jq:=k0 jK;have apK:=k0 jM;clear jK jM;replace dF:=eq_true dF;replace dG:=eq_true dG;have eU:0≤(1:Int):=(by omega);have eV:1 < ((av af (bQ)).length:Int):=oD;obtain ⟨lJ,e103,fF⟩:=Kd.cN jq.z 1 eU eV;cases e103;(try simp only [show (1:Int).toNat=1 from rfl,Nat.reduceMul,Nat.reduceEqDiff,Go.Addr.add,↓reduceIte] at fF);have TF:(1 < (av af (bQ)).length)=True:=eq_true (by omega);(try rw [show ((1:Int)).toNat=1 from rfl] at fF);replace fF:=hbc HB fF;replace eU:=eq_true eU;replace eV:=eq_true eV;have dR:0≤(0:Int):=(by omega);have dS:0 < ((av af (bQ)).length:Int):=oD;obtain ⟨jY,e104,dY⟩:=Kd.cN jq.z 0 dR dS;obtain rfl:lJ=jY:=(by injection e104);have Fe:(0 < (av af (bQ)).length)=True:=eq_true (by omega);(try rw [show ((0:Int)).toNat=0 from rfl] at dY);(try rw [Addr.add_zero'] at dY);replace dY:=hbc HB dY;replace dR:=eq_true dR;replace dS:=eq_true dS));try go_wp2_with (first|((with_reducible refine bp (N:=2) rfl ?_);refine bR 2 #[.int .i64 ah,.slice aT af.length aoW] 31 ?_;intro aoV hg w9 aE hb;have aa:=k0 (aE);have bB:=gW hg (aoS bl);have aX:=bB;replace HB:=k0 (aH bl hb);clear hb aE hg;have uD:=aQ aa;have uE:=aoT aa;have uF:=bF aa 0;have uG:=bF aa 1;have dF:0≤((bQ):Int):=oD;have dG:(bQ) < (af.length:Int):=oD;obtain ⟨nh,vA,vX,e102,gO,jM,jK⟩:=fW ao6.z (bQ) dF dG;cases e102;replace gO:=hbc HB gO;have jq:=k0 jK;have apK:=k0 jM;clear jK jM;replace dF:=eq_true dF;replace dG:=eq_true dG;have eU:0≤(1:Int):=(by omega);have eV:1 < ((av af (bQ)).length:Int):=oD;obtain ⟨lJ,e103,fF⟩:=Kd.cN jq.z 1 eU eV;cases e103;(try simp only [show (1:Int).toNat=1 from rfl,Nat.reduceMul,Nat.reduceEqDiff,Go.Addr.add,↓reduceIte] at fF);have TF:(1 < (av af (bQ)).length)=True:=eq_true (by omega);(try rw [show ((1:Int)).toNat=1 from rfl] at fF);replace fF:=hbc HB fF;replace eU:=eq_true eU;replace eV:=eq_true eV;have dR:0≤(0:Int):=(by omega);have dS:0 < ((av af (bQ)).length:Int):=oD;obtain ⟨jY,e104,dY⟩:=Kd.cN jq.z 0 dR dS;obtain rfl:lJ=jY:=(by injection e104);have Fe:(0 < (av af (bQ)).length)=True:=eq_true (by omega);(try rw [show ((0:Int)).toNat=0 from rfl] at dY);(try rw [Addr.add_zero'] at dY);replace dY:=hbc HB dY;replace dR:=eq_true dR;replace dS:=eq_true dS)))
 go_ret2
 exact ⟨by first|rfl|(simp [je,jf]<;>rfl)|(simp only [← lN];first|rfl|(simp [je,jf]<;>rfl))|(simp [*,je,jf]<;>rfl),bl⟩
/-! ### F135: function 135 -/
mutual
def iB.l0 : Nat → List (List Int) → Int → Int → Int → List (List Int) → Option ((List (List Int)))
 | 0,_,_,_,_,_=>none
 | k+1,x3,x4,x5,fG,eH=>if x5 < x4 then (if 0≤x4 then (if (x4:Int).toNat≤35184372088832 then ((ap3.f fG eH x5).bind fun fL=>(iB.l1 k x3 x4 x5 (List.replicate (x4:Int).toNat 0) fL.2 0 fG eH)) else (none)) else (none)) else (some x3)
def iB.l1 : Nat → List (List Int) → Int → Int → List Int → Int → Int → Int → List (List Int) → Option ((List (List Int)))
 | 0,_,_,_,_,_,_,_,_=>none
 | k+1,x3,x4,x5,x6,x8,x9,fG,eH=>if x9 < x4 then ((ap3.f fG eH x9).bind fun gT=>(if gT.1=x8 then (if x9=(Go.bits .xor .i64 x5 1) then (iB.l1 k x3 x4 x5 x6 x8 (wrap64 (x9+1)) fG eH) else (if 0≤x9 then (if x9 < (x6.length:Int) then (iB.l1 k x3 x4 x5 (x6.set (x9:Int).toNat 1) x8 (wrap64 (x9+1)) fG eH) else (none)) else (none))) else (iB.l1 k x3 x4 x5 x6 x8 (wrap64 (x9+1)) fG eH))) else (if x3.length < 5864062014805 then (iB.l0 k (x3 ++ [x6]) x4 (wrap64 (x5+1)) fG eH) else (none))
end
def iB.f (k:Nat) (ah:Int) (af:List (List Int)):Option ((List (List Int))):=iB.l0 k (([]:List (List Int))) (wrap64 (2 * (af.length:Int))) 0 ah af
theorem iB.calls (k : Nat) (ah : Int) (aT : Option Addr) (aoW : Nat) (af : List (List Int)) (r : List (List Int)) (w : World) (cR : Kd.C (Kd.slice 2 (Kd.int .i64)) w aT af.length af) (cX : af.length ≤ aoW) (h : iB.f k ah af = some r) :
  Calls Try.prog 135 #[.agg #[.int .i64 ah,.slice aT af.length aoW]] w fun e w'=>∃ eE:Value,e=.returned (eE)∧Kd.S (Kd.slice 2 (Kd.int .i64)) 28 w' w.heap.size (fun _=>True) eE r∧Below w.heap.size w w':=by
 have iX:=Try.underlying31
 have ao6:=k0 cR
 have cV:=k0 cX
 clear cR cX
 have HB:=k0 (Below.refl w.heap.size w)
 have H:(iB.l0 k (([]:List (List Int))) (wrap64 (2 * (af.length:Int))) 0 ah af)=some r:=h
 clear h
 obtain ⟨oA,qU⟩:∃ y_:List (List Int),y_=(([]:List (List Int))):=⟨_,rfl⟩
 replace H:(iB.l0 k oA (wrap64 (2 * (af.length:Int))) 0 ah af)=some r:=rH qU H
 have ug:=k0 qU
 clear qU
 have H':=k0 H
 clear H
 go_enter Try.func135,Try.ntmps135
 try go_wp2_with (first|((with_reducible refine bp (N:=1) rfl ?_);refine bR 1 #[.int .i64 ah,.slice aT af.length aoW] 31 ?_;intro aoV hg w2 aE hb;have aa:=k0 (aE);have bB:=gW hg (aoS bl);have aX:=bB;replace HB:=k0 (aH bl hb);clear hb aE hg))
 replace aa:=k0 (aJ aa.z);replace HB:=k0 (aZ HB.z)
 refine apA (n:=7) (S:=fun w'=>w'.cell? ⟨aoV,0,none⟩=some (.int .i64 ah)∧w'.cell? ⟨aoV,1,none⟩=some (.slice aT af.length aoW)) (ds:=[]) (ba 7 0) (by kernel_rfl) rfl rfl ⟨aQ aa,aoT aa⟩ (fun hHeld=>?_)
 generalize w2.drew=w3 at aa HB hHeld ⊢
 refine kT (i:=1) (N:=some 13) (v:=?_) (a':=?_) (ba 7 2) rfl rfl (by kernel_rfl) (fun _ _ _ h=>h) (Or.inl ⟨by rfl,?_⟩) ?_ ?_
 rotate_left;· intro w';go_simp;with_reducible rfl
 rotate_left;· simp only [Act.put,zI,zZ,zS,cm,cO];rfl
 refine aqy (i:=2) (N:=some 14) (v:=?_) (a':=?_) (ba 7 6) rfl rfl (by kernel_rfl) (fun _ _ _ h=>h) (Or.inl ⟨by rfl,?_⟩) hHeld ?_ ?_
 rotate_left;· rintro w' ⟨s0,s1⟩;go_simp;with_reducible rfl
 rotate_left;· simp only [Act.put,zI,zZ,zS,cm,cO];rfl
 refine kT (i:=3) (N:=some 15) (v:=?_) (a':=?_) (ba 7 14) rfl rfl (by kernel_rfl) (fun _ _ _ h=>h) (Or.inl ⟨by rfl,?_⟩) ?_ ?_
 rotate_left;· intro w';go_simp;with_reducible rfl
 rotate_left;· simp only [Act.put,zI,zZ,zS,cm,cO];rfl
 refine kT (i:=4) (N:=some 16) (v:=?_) (a':=?_) (ba 7 30) rfl rfl (by kernel_rfl) (fun _ _ _ h=>h) (Or.inl ⟨by rfl,?_⟩) ?_ ?_
 rotate_left;· intro w';go_simp;with_reducible rfl
 rotate_left;· simp only [Act.put,zI,zZ,zS,cm,cO];rfl
 refine ja (i:=0) (N:=some 12) (ba 7 31) rfl rfl (by kernel_rfl) (by decide) (fun K hK=>?_)
 refine Kd.WU (Kd.slice 2 (Kd.int .i64)) _ 28 ?hg (N:=12) ?hd (xs:=([]:List (List Int))) (inner:=[]) (ok:=fun _=>True) (b_:=fun _=>True) ?hr ?hp (fun _ hk=>hk) trivial (Below.refl _ _) (Nat.le_refl _) (by simp) ?_;(case hd=>rfl);(case hg=>rfl);(case hr=>first|(go_simp;done)|(go_simp;rfl));(case hp=>exact (bh.none _ _))
 intro CK w4 uK hb cJ cK
 clear cJ cK
 (first|rw [← ug.z] at uK|(simp only [Int.reduceToNat] at uK;rw [← ug.z] at uK))
 have hJ:=k0 (Kd.ig uK (aoS bl));replace aa:=kB aa hb;replace HB:=k0 (aH bl hb)
 clear hb uK
 refine hK.out _ _ ⟨aQ aa,aoT aa⟩ (fun hHeld=>?_)
 clear hK K
 refine jh (a':=?_) ?_ ?_
 rotate_left;· show Act.put _ (some 12) _=_;simp only [Act.put,zI,zZ,zS,cm,cO];rfl
 refine kT (i:=5) (N:=some 3) (v:=?_) (a':=?_) (ba 7 63) rfl rfl (by kernel_rfl) (fun _ _ _ h=>h) (Or.inl ⟨by rfl,?_⟩) ?_ ?_
 rotate_left;· intro w';go_simp;with_reducible rfl
 rotate_left;· simp only [Act.put,zI,zZ,zS,cm,cO];rfl
 refine kT (i:=6) (N:=some 4) (v:=?_) (a':=?_) (ba 7 127) rfl rfl (by kernel_rfl) (fun _ _ _ h=>h) (Or.inl ⟨by rfl,?_⟩) ?_ ?_
 rotate_left;· intro w';go_simp;with_reducible rfl
 rotate_left;· simp only [Act.put,zI,zZ,zS,cm,cO];rfl
 refine lY (by kernel_rfl) ?_
 try go_wp2
 go_loopg [3,5] k (fun kq v3 v5 w'=>∃ (cn:List (List Int)) (aY:Int),v5=.int .i64 aY∧aj (iB.l0 kq cn (wrap64 (2 * (af.length:Int))) aY ah af=some r)∧aj (kq≤k)∧aj (Kd.S (Kd.slice 2 (Kd.int .i64)) 28 w' w.heap.size (fun _=>True) v3 cn)∧aj (w'.heap[aoV]?=some (sO ah aT af aoW 31))∧aj (Below w.heap.size w w'))
 case atStart=>exact ⟨(oA),(0),rs,H',⟨Nat.le_refl _⟩,⟨aS (hJ.z)⟩,⟨bk⟩,⟨bl⟩⟩
 case round =>
  clear H'
  obtain ⟨cn,aY,rfl,HA,bx,bC,aa,HB⟩:=hrel
  cases gk with
  | zero=>exact absurd HA.z (by simp [iB.l0])
  | succ k1 =>
   have H:=HA.z
   clear HA
   simp only [iB.l0] at H
   by_cases c6:aY < (wrap64 (2 * (af.length:Int)))
   case neg =>
    rw [if_neg c6] at H
    have kG:decide (aY < (wrap64 (2 * (af.length:Int))))=false:=decide_eq_false c6
    clear c6
    obtain rfl:=Option.some.inj H
    go_wp2
    go_ret
    exact ⟨_,eR,by (with_reducible repeat (first|apply Kd.cM|apply Kd.cI|apply Kd.cr));exact bC.z,bl⟩
   rw [if_pos c6] at H
   have kG:=decide_eq_true c6
   clear c6
   obtain ⟨oV,sj⟩:∃ j_:Int,(wrap64 (2 * (af.length:Int)))=j_:=⟨_,rfl⟩
   replace H:(if 0≤(oV) then (if ((oV):Int).toNat≤35184372088832 then ((ap3.f ah af aY).bind fun fL=>(iB.l1 k1 cn (oV) aY (List.replicate ((oV):Int).toNat 0) fL.2 0 ah af)) else (none)) else (none))=some r:=by first|(rw [sj] at H;exact H)|(simp only [sj] at H ⊢;exact H)
   (try rw [sj] at kG)
   have abU:(IntKind.i64.wrap (2 * (af.length:Int)))=oV:=(cm _).trans sj
   replace H:=iS H;obtain ⟨c8,H⟩:=H
   have kH:=eq_true c8
   have qL:=decide_eq_true c8
   clear c8
   replace H:=iS H;obtain ⟨c9,H⟩:=H
   have ap8:=eq_true c9
   have BD:=decide_eq_true c9
   clear c9
   obtain ⟨vw,uP⟩:∃ y_:List Int,y_=(List.replicate ((oV):Int).toNat 0):=⟨_,rfl⟩
   replace H:((ap3.f ah af aY).bind fun fL=>(iB.l1 k1 cn (oV) aY vw fL.2 0 ah af))=some r:=rH uP H
   have yd:=k0 uP
   clear uP
   replace H:=Option.bind_eq_some_iff.mp H
   obtain ⟨⟨t108,t109⟩,Nw,H⟩:=H
   replace H:(iB.l1 k1 cn (oV) aY vw t109 0 ah af)=some r:=H
   have UD:=k0 Nw
   clear Nw
   have H':=k0 H
   clear H
   go_wp2_with (first|((with_reducible refine bp (N:=23) rfl ?_);(try simp only [sj,abU]);refine Kd.JG (Kd.int .i64) _ 2 rfl (N:=23) rfl 28 _ _ rfl (oV) rfl rfl Try.underlying28 (.int .i64 0) 8 mR rfl (by decide) (by omega) 0 (ok:=fun _=>True) (b_:=fun _=>True) rfl (fun _ hk=>hk) trivial oD (Nat.le_trans (Nat.mul_le_mul_right _ (oD:(oV).toNat≤35184372088832)) (by omega)) (Below.refl _ _) (Nat.le_refl _) ?_;intro vn vp nr hb cJ cK;clear cJ cK;(first|rw [← yd.z] at nr|(simp only [Int.reduceToNat] at nr;rw [← yd.z] at nr));replace bC:=k0 (Kd.cC (aS bC.z) (Kd.aU nr) hb);have eP:=k0 (Kd.cU nr (aoS bl));replace aa:=kB aa hb;replace HB:=k0 (aH bl hb);clear hb nr;have xm:=aQ aa;have yA:=aoT aa;have xo:=bF aa 0;have yD:=bF aa 1)|((with_reducible refine bg (f:=201) rfl ?_);refine gC (some 27) Try.func201 #[.agg #[.int .i64 ah,.slice aT af.length aoW],.int .i64 aY] ?_;(with_reducible refine (ap3.calls ah _ _ af aY t108 t109 _ ?aoN ?aoP UD.z).mono ?_);(case aoN=>exact aC (Kd.ao4 ao6.z HB.z));(case aoP=>exact cV.z);rintro e tL ⟨rfl,hb⟩;refine ⟨_,rfl,?_⟩;replace bC:=k0 (Kd.gB (aS bC.z) hb);replace eP:=k0 (Kd.apn (aR eP.z) hb);replace aa:=kB aa hb;replace HB:=k0 (aH bl hb);))
   go_loopg [9] k1 (fun kq v9 w'=>∃ (d_:List Int) (gM:Int),v9=.int .i64 gM∧aj (iB.l1 kq cn (oV) aY d_ t109 gM ah af=some r)∧aj (kq≤k1)∧aj (Kd.S (Kd.slice 2 (Kd.int .i64)) 28 w' w.heap.size (fun k_=>some k_ ≠ (vn:Value).ownBlock) u3 cn)∧aj (Kd.R (Kd.int .i64) 2 w' w.heap.size (fun _=>True) vn d_)∧aj (w'.heap[aoV]?=some (sO ah aT af aoW 31))∧aj (Below w.heap.size w w'))
   case atStart=>exact ⟨(vw),(0),rs,H',⟨Nat.le_refl _⟩,⟨aS (Kd.bq bC.z (fun _ hk=>hk.2))⟩,⟨aR (eP.z)⟩,⟨bk⟩,⟨bl⟩⟩
   case round =>
    clear H'
    obtain ⟨d_,gM,rfl,HA,cD,bC,bz,aa,HB⟩:=hrel
    cases gk with
    | zero=>exact absurd HA.z (by simp [iB.l1])
    | succ k2 =>
     have H:=HA.z
     clear HA
     simp only [iB.l1] at H
     by_cases c15:gM < (oV)
     case neg =>
      rw [if_neg c15] at H
      have oN:decide (gM < (oV))=false:=decide_eq_false c15
      clear c15
      replace H:=iS H;obtain ⟨c30,H⟩:=H
      have Jw:=k0 c30
      clear c30
      obtain ⟨aqh,uQ⟩:∃ y_:List (List Int),y_=(cn ++ [d_]):=⟨_,rfl⟩
      replace H:(iB.l0 k2 aqh (oV) (wrap64 (aY+1)) ah af)=some r:=rH uQ H
      have Dz:=k0 uQ
      clear uQ
      have H':=k0 H
      clear H
      obtain ⟨rN,rz,aqC⟩:=Kd.dM bz.z
      subst aqC
      go_wp2_with (first|((with_reducible refine kQ (b:=.append) (xs:=#[.tmp 53,.tmp 55]) rfl ?_);at_builtin;refine Kd.uj (Kd.slice 2 (Kd.int .i64)) (w0:=w) w.heap.size rfl (.tmp 53) (.tmp 55) 22 28 (.slice none 0 0) 24 rfl Try.underlying22 qX rfl (by decide) (by omega) u3 cn d_ [.slice rN d_.length rz] (fun _=>True) (fun k_=>some k_=(.slice rN d_.length rz:Value).ownBlock) rfl rfl ?aP (fun k_ bZ=>((Kd.aoY (ok':=fun k_=>((fun _=>True)) k_∧some k_ ≠ (u3:Value).ownBlock) (Kd.iU (bz.z) (Kd.iE bC.z) (by decide)) (fun k_ hk=>⟨trivial,hk.2⟩))).1 k_ bZ.symm) ?aF ?aO ?aB ?aS ?aL ?_;(case aP=>exact Kd.apB (Kd.aoY (Kd.mh rfl (Kd.aoY (ok':=fun k_=>((fun _=>True)) k_∧some k_ ≠ (u3:Value).ownBlock) (Kd.iU (bz.z) (Kd.iE bC.z) (by decide)) (fun k_ hk=>⟨trivial,hk.2⟩))) (fun _ h_=>h_)));(case aB=>exact bl);(case aF=>exact (fun _ _=>trivial));(case aO=>exact (by (with_reducible repeat (first|apply Kd.cM|apply Kd.cI|apply Kd.cr));exact Kd.bq bC.z (fun k_ hk=>⟨trivial,fun e_=>hk e_⟩)));(case aS=>exact (aoS bl));(case aL=>have:=Jw.out;omega);intro Fm CP ho hb hg ao1;rw [← Dz.z] at ho;have aq:=k0 (fl (aB aa.z) hg (Kd.jz bC.z aa.z (by decide)));have au:=k0 (hb);have ax:=k0 (ho);clear aa;clear HB;clear bC;clear bz;have aa:=aq;have HB:=au;have lF:=ax;clear aq au ax;clear ho hb hg ao1))
      first|go_roundg k2|(simp only [← sj];go_roundg k2)
      case measure=>have:=bx.z;have:=cD.z;omega
      case rel=>exact ⟨(aqh),(wrap64 (aY+1)),rs,(by first|exact H'|(rw [sj];exact H')),⟨by have:=bx.z;have:=cD.z;omega⟩,⟨aS (lF.z)⟩,⟨bk⟩,⟨bl⟩⟩
     rw [if_pos c15] at H
     have oN:=decide_eq_true c15
     clear c15
     replace H:=Option.bind_eq_some_iff.mp H
     obtain ⟨⟨t110,t111⟩,xS,H⟩:=H
     replace H:(if t110=t109 then (if gM=(Go.bits .xor .i64 aY 1) then (iB.l1 k2 cn (oV) aY d_ t109 (wrap64 (gM+1)) ah af) else (if 0≤gM then (if gM < (d_.length:Int) then (iB.l1 k2 cn (oV) aY (d_.set (gM:Int).toNat 1) t109 (wrap64 (gM+1)) ah af) else (none)) else (none))) else (iB.l1 k2 cn (oV) aY d_ t109 (wrap64 (gM+1)) ah af))=some r:=H
     have qx:=k0 xS
     clear xS
     by_cases c17:t110=t109
     case neg =>
      rw [if_neg c17] at H
      have ur:(t110 == t109)=false:=beq_eq_false_iff_ne.mpr c17
      have JT:(t110 != t109)=true:=bne_iff_ne.mpr c17
      have H':=k0 H
      clear H
      have KR:=aQ aa
      have KS:=aoT aa
      have Lc:=bF aa 0
      have Ld:=bF aa 1
      go_wp2_with (first|((with_reducible refine bg (f:=201) rfl ?_);refine gC (some 38) Try.func201 #[.agg #[.int .i64 ah,.slice aT af.length aoW],.int .i64 gM] ?_;(with_reducible refine (ap3.calls ah _ _ af gM t110 t111 _ ?aoN ?aoP qx.z).mono ?_);(case aoN=>exact aC (Kd.ao4 ao6.z HB.z));(case aoP=>exact cV.z);rintro e Nq ⟨rfl,hb⟩;refine ⟨_,rfl,?_⟩;replace bC:=k0 (Kd.gB (aS bC.z) hb);replace bz:=k0 (Kd.apn (aR bz.z) hb);replace aa:=kB aa hb;replace HB:=k0 (aH bl hb);))
      first|go_roundg k2|(simp only [← sj];go_roundg k2)
      case measure=>have:=bx.z;have:=cD.z;omega
      case rel=>exact ⟨(d_),(wrap64 (gM+1)),rs,(by first|exact H'|(rw [sj];exact H')),⟨by have:=bx.z;have:=cD.z;omega⟩,⟨aS (bC.z)⟩,⟨aR (bz.z)⟩,⟨bk⟩,⟨bl⟩⟩
     rw [if_pos c17] at H
     have ur:(t110 == t109)=true:=beq_iff_eq.mpr c17
     have JT:(t110 != t109)=false:=bne_eq_false_iff_eq.mpr c17
     clear c17
     by_cases c18:gM=(Go.bits .xor .i64 aY 1)
     case neg =>
      rw [if_neg c18] at H
      have apY:(gM == (Go.bits .xor .i64 aY 1))=false:=beq_eq_false_iff_ne.mpr c18
      have Px:(gM != (Go.bits .xor .i64 aY 1))=true:=bne_iff_ne.mpr c18
      replace H:=iS H;obtain ⟨c21,H⟩:=H
      have yl:=decide_eq_true c21
      clear c21
      replace H:=iS H;obtain ⟨c22,H⟩:=H
      have DS:=decide_eq_true c22
      clear c22
      obtain ⟨o_,oq⟩:∃ y_:List Int,y_=(d_.set (gM:Int).toNat 1):=⟨_,rfl⟩
      replace H:(iB.l1 k2 cn (oV) aY o_ t109 (wrap64 (gM+1)) ah af)=some r:=rH oq H
      have vP:=k0 oq
      clear oq
      have H':=k0 H
      clear H
      have KL:=aQ aa
      have KM:=aoT aa
      have K7:=bF aa 0
      have K8:=bF aa 1
      go_wp2_with (first|((with_reducible refine bg (f:=201) rfl ?_);refine gC (some 38) Try.func201 #[.agg #[.int .i64 ah,.slice aT af.length aoW],.int .i64 gM] ?_;(with_reducible refine (ap3.calls ah _ _ af gM t110 t111 _ ?aoN ?aoP qx.z).mono ?_);(case aoN=>exact aC (Kd.ao4 ao6.z HB.z));(case aoP=>exact cV.z);rintro e y5 ⟨rfl,hb⟩;refine ⟨_,rfl,?_⟩;replace bC:=k0 (Kd.gB (aS bC.z) hb);replace bz:=k0 (Kd.apn (aR bz.z) hb);replace aa:=kB aa hb;replace HB:=k0 (aH bl hb);have MC:0≤(gM:Int):=oD;have MX:(gM:Int) < ((d_.length:Int):Int):=oD;obtain ⟨Eh,yo,zY,QF,ZT,ahx,Oh⟩:=Kd.aql bz.z (by omega);(first|cases zY|(injection zY with er apw apv;(first|subst er|(injection er with er;subst er));subst apv;clear apw));have Vs:=k0 QF;have agt:=k0 Oh;clear QF ZT Oh;obtain ⟨an3,ajU⟩:=Kd.vR 0 bz.z (gM:Int) MC MX;replace MC:=eq_true MC;replace MX:=eq_true MX;obtain ⟨an6,an7⟩:=Kd.vR 0 bz.z (gM:Int) oD oD;have Jf:=Kd.zH bz.z (gM:Int) 1)|((with_reducible refine Gw (t:=2) (p:=52) rfl ?_);refine Ib (t:=2) (p:=52) (v:=?aov) (w1:=(y5.setCell ⟨Eh,(gM:Int).toNat,none⟩ (.int .i64 1))) ?hg ?ho ?hn ?hr ?_;(case ho=>rfl);(case hg=>rfl);(case hn=>rfl);(case hr=>first|(go_simp;done)|(go_simp;rfl));intro xG hw;have hg:y5.grownBy xG (some Eh):=(by rw [hw];exact Jf.2);have uL:Kd.R (Kd.int .i64) 2 xG w.heap.size (fun _=>True) (.slice (some ⟨Eh,0,none⟩) d_.length yo) o_:=(by rw [hw,vP.z];exact Jf.1);clear Jf;replace bC:=k0 (Kd.apW (v:=(.slice (some ⟨Eh,0,none⟩) d_.length yo)) (v1:=(.slice (some ⟨Eh,0,none⟩) d_.length yo)) (ok:=(fun _=>True)) (by (with_reducible repeat (first|apply Kd.cM|apply Kd.cI|apply Kd.cr));exact Kd.bq bC.z (fun _ hk=>⟨trivial,hk⟩)) hg (.inl rfl));replace aa:=k0 (fl (aB aa.z) hg (Kd.kr bz.z aa.z (by decide)));replace bz:=k0 (uL);replace HB:=k0 ((by rw [hw];exact aoO (HB.z) Vs.out:Below w.heap.size w xG));clear hg hw uL))
      first|go_roundg k2|(simp only [← sj];go_roundg k2)
      case measure=>have:=bx.z;have:=cD.z;omega
      case rel=>exact ⟨(o_),(wrap64 (gM+1)),rs,(by first|exact H'|(rw [sj];exact H')),⟨by have:=bx.z;have:=cD.z;omega⟩,⟨aS (Kd.bq bC.z (fun _ hk=>hk.2))⟩,⟨aR (bz.z)⟩,⟨bk⟩,⟨bl⟩⟩
     rw [if_pos c18] at H
     have apY:(gM == (Go.bits .xor .i64 aY 1))=true:=beq_iff_eq.mpr c18
     have Px:(gM != (Go.bits .xor .i64 aY 1))=false:=bne_eq_false_iff_eq.mpr c18
     clear c18
     have H':=k0 H
     clear H
     have BV:=aQ aa
     have BW:=aoT aa
     have aqQ:=bF aa 0
     have B6:=bF aa 1
     go_wp2_with (first|((with_reducible refine bg (f:=201) rfl ?_);refine gC (some 38) Try.func201 #[.agg #[.int .i64 ah,.slice aT af.length aoW],.int .i64 gM] ?_;(with_reducible refine (ap3.calls ah _ _ af gM t110 t111 _ ?aoN ?aoP qx.z).mono ?_);(case aoN=>exact aC (Kd.ao4 ao6.z HB.z));(case aoP=>exact cV.z);rintro e aqf ⟨rfl,hb⟩;refine ⟨_,rfl,?_⟩;replace bC:=k0 (Kd.gB (aS bC.z) hb);replace bz:=k0 (Kd.apn (aR bz.z) hb);replace aa:=kB aa hb;replace HB:=k0 (aH bl hb);))
     first|go_roundg k2|(simp only [← sj];go_roundg k2)
     case measure=>have:=bx.z;have:=cD.z;omega
     case rel=>exact ⟨(d_),(wrap64 (gM+1)),rs,(by first|exact H'|(rw [sj];exact H')),⟨by have:=bx.z;have:=cD.z;omega⟩,⟨aS (bC.z)⟩,⟨aR (bz.z)⟩,⟨bk⟩,⟨bl⟩⟩
/-! ### F160: function 160 -/
def pW.l0 : Nat → List Int → Int → Option (List Int)
 | 0,_,_=>none
 | k+1,x0,x3=>if x3 > 0 then (if 0≤(wrap64 (x3 - 1)) then (if (wrap64 (x3 - 1)) < (x0.length:Int) then (if (rd x0 (wrap64 (x3 - 1)))=0 then (pW.l0 k x0 (wrap64 (x3 - 1))) else (if 0≤x3 then (if x3≤(x0.length:Int) then ((rP.f (x0.take (x3:Int).toNat)).bind fun t103=>(some t103)) else (none)) else (none))) else (none)) else (none)) else (if 0≤x3 then (if x3≤(x0.length:Int) then ((rP.f (x0.take (x3:Int).toNat)).bind fun t107=>(some t107)) else (none)) else (none))
def pW.f (k:Nat) (l0:List Int):Option (List Int):=pW.l0 k l0 (l0.length:Int)
theorem pW.calls (k : Nat) (A0 : Option Addr) (c0 : Nat) (l0 : List Int) (r : List Int) (w : World) (cY : Kd.C (Kd.int .i64) w A0 l0.length l0) (hc0 : l0.length ≤ c0) (h : pW.f k l0 = some r) :
  Calls Try.prog 160 #[.slice A0 l0.length c0] w fun e w'=>∃ eE:Value,e=.returned (eE)∧Kd.R (Kd.int .i64) 2 w' w.heap.size (fun _=>True) eE r∧Below w.heap.size w w':=by
 have ek:=k0 cY
 have jx:=k0 hc0
 clear cY hc0
 have HB:=k0 (Below.refl w.heap.size w)
 have H:(pW.l0 k l0 (l0.length:Int))=some r:=h
 clear h
 have H':=k0 H
 clear H
 go_enter Try.func160,Try.ntmps160
 go_wp2
 go_loopg [3] k (fun kq v3 w'=>∃ (cn:Int),v3=.int .i64 cn∧aj (pW.l0 kq l0 cn=some r)∧aj (kq≤k)∧aj (Below w.heap.size w w'))
 case atStart=>exact ⟨((l0.length:Int)),rs,H',⟨Nat.le_refl _⟩,⟨bl⟩⟩
 case round =>
  clear H'
  obtain ⟨cn,rfl,HA,bx,HB⟩:=hrel
  cases gk with
  | zero=>exact absurd HA.z (by simp [pW.l0])
  | succ k1 =>
   have H:=HA.z
   clear HA
   simp only [pW.l0] at H
   by_cases c2:cn > 0
   case neg =>
    rw [if_neg c2] at H
    have xb:decide (0 < cn)=false:=decide_eq_false c2
    clear c2
    replace H:=iS H;obtain ⟨c12,H⟩:=H
    have qJ:=eq_true c12
    have Gf:=decide_eq_true c12
    clear c12
    replace H:=iS H;obtain ⟨c13,H⟩:=H
    have ru:=eq_true c13
    have Pw:=decide_eq_true c13
    clear c13
    replace H:=Option.bind_eq_some_iff.mp H
    obtain ⟨t107,xR,H⟩:=H
    replace H:(some t107)=some r:=H
    have CX:=k0 xR
    clear xR
    obtain rfl:=Option.some.inj H
    obtain ⟨i015,RK,_,Sv,_⟩:=info_parts mR
    obtain ⟨ahP,hA15,QM⟩:=TC (P:=Try.prog) (Value.int .i64) 0 28 2 .i64 Try.underlying28 RK Sv A0 c0 l0 cn oD oD jx.z
    have VU:=k0 (Kd.N7 (h1:=fun _=>rfl) (hA15 _ (Kd.HY ek.z)))
    have Od:=k0 QM
    clear hA15 QM RK Sv
    go_wp2_with (first|((with_reducible refine bg (f:=173) rfl ?_);refine Ks (some 21) rfl rfl Try.func173 (by kernel_rfl) rfl #[.slice A0 (l0.take (cn:Int).toNat).length c0] rfl (by (try simp only [List.map_toArray,List.map_cons,List.map_nil]);first|done|(rw [show (l0.take (cn:Int).toNat).length=cn.toNat from (by rw [List.length_take];have h_:(cn:Int)≤(l0.length:Int):=oD;omega)]<;>rfl)|rfl|(simp only [List.length_drop,List.length_take];rfl)) ?_;(with_reducible refine (rP.calls _ _ (l0.take (cn:Int).toNat) t107 _ ?aoN ?aoP CX.z).mono ?_);(case aoN=>exact aC (Kd.ao4 VU.z HB.z));(case aoP=>exact Od.z);rintro e xE ⟨vo,rfl,aD,hb⟩;refine ⟨_,rfl,?_⟩;have eB:=k0 (Kd.cU aD (aoS bl));replace HB:=k0 (aH bl hb);))
    go_ret
    exact ⟨_,eR,by (with_reducible repeat (first|apply Kd.dK|apply Kd.dD|apply Kd.cB));exact eB.z,bl⟩
   rw [if_pos c2] at H
   have xb:=decide_eq_true c2
   clear c2
   obtain ⟨bQ,lN⟩:∃ j_:Int,(wrap64 (cn - 1))=j_:=⟨_,rfl⟩
   replace H:(if 0≤(bQ) then (if (bQ) < (l0.length:Int) then (if (rd l0 (bQ))=0 then (pW.l0 k1 l0 bQ) else (if 0≤cn then (if cn≤(l0.length:Int) then ((rP.f (l0.take (cn:Int).toNat)).bind fun t103=>(some t103)) else (none)) else (none))) else (none)) else (none))=some r:=by first|(rw [lN] at H;exact H)|(simp only [lN] at H ⊢;exact H)
   have Lr:(IntKind.i64.wrap (cn - 1))=bQ:=(cm _).trans lN
   replace H:=iS H;obtain ⟨c4,H⟩:=H
   have fX:=decide_eq_true c4
   clear c4
   replace H:=iS H;obtain ⟨c5,H⟩:=H
   have jt:=decide_eq_true c5
   clear c5
   by_cases c6:(rd l0 (bQ))=0
   case neg =>
    rw [if_neg c6] at H
    have kG:((rd l0 (bQ)) == 0)=false:=beq_eq_false_iff_ne.mpr c6
    have apZ:((rd l0 (bQ)) != 0)=true:=bne_iff_ne.mpr c6
    replace H:=iS H;obtain ⟨c7,H⟩:=H
    have oO:=eq_true c7
    have uv:=decide_eq_true c7
    clear c7
    replace H:=iS H;obtain ⟨c8,H⟩:=H
    have kH:=eq_true c8
    have qL:=decide_eq_true c8
    clear c8
    replace H:=Option.bind_eq_some_iff.mp H
    obtain ⟨t103,C5,H⟩:=H
    replace H:(some t103)=some r:=H
    have A9:=k0 C5
    clear C5
    obtain rfl:=Option.some.inj H
    have apa:0≤((bQ):Int):=oD
    have apb:(bQ) < (l0.length:Int):=oD
    obtain ⟨mj,e101,lp⟩:=Kd.cN ek.z (bQ) apa apb
    cases e101
    replace lp:=hbc HB lp
    replace apa:=eq_true apa
    replace apb:=eq_true apb
    obtain ⟨i010,EE,_,Hp,_⟩:=info_parts mR
    obtain ⟨Q6,hA10,Ek⟩:=TC (P:=Try.prog) (Value.int .i64) 0 28 2 .i64 Try.underlying28 EE Hp (some mj) c0 l0 cn oD oD jx.z
    have VT:=k0 (Kd.N7 (h1:=fun _=>rfl) (hA10 _ (Kd.HY ek.z)))
    have VH:=k0 Ek
    clear hA10 Ek EE Hp
    go_wp2_with (first|((with_reducible refine bg (f:=173) rfl ?_);refine Ks (some 21) rfl rfl Try.func173 (by kernel_rfl) rfl #[.slice (some mj) (l0.take (cn:Int).toNat).length c0] rfl (by (try simp only [List.map_toArray,List.map_cons,List.map_nil]);first|done|(rw [show (l0.take (cn:Int).toNat).length=cn.toNat from (by rw [List.length_take];have h_:(cn:Int)≤(l0.length:Int):=oD;omega)]<;>rfl)|rfl|(simp only [List.length_drop,List.length_take];rfl)) ?_;(with_reducible refine (rP.calls _ _ (l0.take (cn:Int).toNat) t103 _ ?aoN ?aoP A9.z).mono ?_);(case aoN=>exact aC (Kd.ao4 VT.z HB.z));(case aoP=>exact VH.z);rintro e vp ⟨tI,rfl,aD,hb⟩;refine ⟨_,rfl,?_⟩;have apd:=k0 (Kd.cU aD (aoS bl));replace HB:=k0 (aH bl hb);))
    go_ret
    exact ⟨_,by first|rfl|(simp [je,jf]<;>rfl)|(simp only [← lN];first|rfl|(simp [je,jf]<;>rfl))|(simp [*,je,jf]<;>rfl),by (with_reducible repeat (first|apply Kd.dK|apply Kd.dD|apply Kd.cB));exact apd.z,bl⟩
   rw [if_pos c6] at H
   have kG:((rd l0 (bQ)) == 0)=true:=beq_iff_eq.mpr c6
   have apZ:((rd l0 (bQ)) != 0)=false:=bne_eq_false_iff_eq.mpr c6
   clear c6
   have H':=k0 H
   clear H
   have apa:0≤((bQ):Int):=oD
   have apb:(bQ) < (l0.length:Int):=oD
   obtain ⟨mj,e101,lp⟩:=Kd.cN ek.z (bQ) apa apb
   cases e101
   replace lp:=hbc HB lp
   replace apa:=eq_true apa
   replace apb:=eq_true apb
   go_wp2
   first|go_roundg k1|(simp only [← lN];go_roundg k1)
   case measure=>have:=bx.z;omega
   case rel=>exact ⟨(bQ),(by first|rfl|(simp;done)|(simp only [← lN]<;>(first|rfl|simp))|(simp [*];done)),(by first|exact H'|(rw [lN];exact H')),⟨by have:=bx.z;omega⟩,⟨bl⟩⟩
end Go.Proofs.Ytoebojnhchocaaa.E
/- Set with little white space, by a program. -/
