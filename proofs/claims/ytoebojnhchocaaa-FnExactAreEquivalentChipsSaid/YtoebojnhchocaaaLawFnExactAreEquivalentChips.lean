/- Proves of FnExactAreEquivalentChips: whatever comes in, it answers true, and what came in reads as before. No condition. -/
import Derived.Test.YtoebojnhchocaaaRows
import Derived.Test.YtoebojnhchocaaaCx20
import Derived.Test.YtoebojnhchocaaaCOpen
import Derived.Test.YtoebojnhchocaaaPureFnExactAreEquivalentChips
import Derived.WalkKit
import Derived.ProofKit
import Derived.OpenShut
import Derived.ShutString
import Derived.ChangeOld
import Derived.Below
import Derived.SizedLaws
import Derived.Lib.SmallJoins
import Derived.Deep.Matrix
import Derived.Deep.Strs
namespace Go.Proofs.Ytoebojnhchocaaa.Og
open Go.RowKit Go.Proofs.bI.en Go.Proofs.bI.je Go.Proofs.bI.jC
open Go.ChangeShapes Go.WideShapes Go.ChangeAt
open Go.ChangeMaps (open_string shut_string)
open Go.Proofs.Ytoebojnhchocaaa.C
set_option linter.unusedVariables false
set_option linter.unusedSimpArgs false
theorem own:ownKnob Try.prog.godebug=none:=by kernel_rfl
theorem laidOut:laidOutB Try.prog=true:=by kernel_rfl
theorem ED:Try.prog.cellsOf 2=1:=by kernel_rfl
theorem WM:Try.prog.cellsOf 22=1:=by kernel_rfl
theorem NG:Try.prog.cellsOf 28=1:=by kernel_rfl
set_option maxRecDepth 100000 in
theorem lifted (os : Os) (started : os.Started) (H : Type) (enc : TypeId × Value → H) :
  ReturnsInHanded {} Try.checked os 5 .any (Rows.fnExactAreEquivalentChipsSpec.pre6 enc Try.prog Try.f5 Rows.fnExactAreEquivalentChipsRow.domain false) (Rows.fnExactAreEquivalentChipsSpec.post enc Try.prog Try.f5 false true false false):=by
 refine returnsInHanded_of_change_sized (C := Try.checked) own started (by kernel_rfl) Try.func5
  (ChangeSpec.witness6 (enc:=enc) (C:=Try.checked) false ⟨#[],#[.agg #[.int .i64 0,.slice none 0 0],.slice none 0 0,.slice none 0 0],[]⟩ 8 (by kernel_rfl) (by kernel_rfl) (by kernel_rfl) (by kernel_rfl)) ?_
 intro W base args ds gs before QU hW hcnd abr _
 have hval:∀ (j:Nat) t v,Try.f5.params[j]?=some t→args[j]?=some v→Value.okWide Try.prog W .any base t v:=QU
 have ZD:=hW
 obtain ⟨p,q,hA0,hV,rfl,hfz,hnd⟩:=hW
 have hA:DataW.TrodAll enc Try.prog W 0 (fun _=>true) true Try.f5.params.toList args.toList ds p:=hA0
 rw [Try.params5] at hA hval
 obtain ⟨v0,vs0,d0,ds0,p0,q0,hargs,rfl,rfl,h0,r0⟩:=trodAll_cons hA
 obtain ⟨v1,vs1,d1,ds1,p1,q1,rfl,rfl,rfl,h1,r1⟩:=trodAll_cons r0
 obtain ⟨v2,vs2,d2,ds2,p2,q2,rfl,rfl,rfl,h2,r2⟩:=trodAll_cons r1
 obtain ⟨rfl,rfl,rfl⟩:=trodAll_nil r2
 obtain rfl:args=#[v0,v1,v2]:=by cases args;simp_all
 obtain ⟨rfl,rfl⟩:=trodVars_none hV
 have k0:=h0
 have lt0:∀ x ∈ p0,x.block < W.heap.size:=by obtain ⟨m,hm⟩:=k0;exact DataW.trod_lt m _ _ _ hm
 obtain ⟨agD,Jz⟩:=h0
 obtain ⟨WK,rfl,hs0⟩:=okWide_struct Try.underlying24 (hval 0 24 v0 rfl rfl)
 obtain ⟨af4,af5,rfl⟩:=VQ WK (hs0.trans (by kernel_rfl))
 simp only [Value.cells] at Jz
 obtain ⟨akc,akd,ajp,_,_,OA,OB⟩:=trod_struct2 Try.underlying24 Jz
 simp only [ED,WM,NG,List.drop_zero,List.take_succ_cons,List.take_zero,List.drop_succ_cons] at OA OB
 obtain ⟨af,Iq,_,aeN⟩:=DataW.trod_int Try.underlying2 OA
 injection Iq with Iq _
 subst Iq
 obtain ⟨aq,ak,aa,XL,akw,aa7,aa',aeO⟩:=ac_ Try.underlying22 Try.underlying28 Try.underlying2 NG ED OB
 subst XL
 have k1:=h1
 have lt1:∀ x ∈ p1,x.block < W.heap.size:=by obtain ⟨m,hm⟩:=k1;exact DataW.trod_lt m _ _ _ hm
 obtain ⟨fuel1,alG⟩:=h1
 obtain ⟨aa1,ajn,af1,rfl⟩:=okWide_slice Try.underlying28 (hval 1 28 v1 rfl rfl)
 simp only [Value.cells] at alG
 obtain ⟨A1,c1,l1,e1,ef,yL,QB,w1⟩:=RU Try.underlying28 Try.underlying2 ED alG
 injection e1 with XN XO XP
 subst XN XO XP
 have k2:=h2
 have lt2:∀ x ∈ p2,x.block < W.heap.size:=by obtain ⟨m,hm⟩:=k2;exact DataW.trod_lt m _ _ _ hm
 obtain ⟨fuel2,E6⟩:=h2
 obtain ⟨aa2,ajo,af3,rfl⟩:=okWide_slice Try.underlying28 (hval 2 28 v2 rfl rfl)
 simp only [Value.cells] at E6
 obtain ⟨A2,c2,l2,e2,nc,hk2,hm2,w2⟩:=RU Try.underlying28 Try.underlying2 ED E6
 injection e2 with XQ XR XS
 subst XQ XR XS
 clear hA0 QU abr
 obtain ⟨k,h⟩:=Pure.TI af aa l1 l2 aeN aa' aeO QB w1 hm2 w2
 refine (F5.calls k af _ _ aa _ _ l1 _ _ l2 true W aa7 akw yL ef hk2 nc h).mono ?_
 rintro e W' ⟨rfl,amu⟩
 exact ⟨_,rfl,_,_,_,[],_,[],ZD,trodAll_mk1 (shut_bool Try.underlying4 _),(trodAll_cons_mk (Below.trod laidOut (by kernel_rfl) (of_decide_eq_true (by kernel_rfl)) k0 amu lt0) (trodAll_cons_mk (Below.trod laidOut (by kernel_rfl) (of_decide_eq_true (by kernel_rfl)) k1 amu lt1) (trodAll_cons_mk (Below.trod laidOut (by kernel_rfl) (of_decide_eq_true (by kernel_rfl)) k2 amu lt2) trodAll_mk0))),rfl,amu.frame _,fun h=>by cases h⟩
theorem over:Rows.fnExactAreEquivalentChipsRow.holds Try.pinned (OpenSpec.ofChange Rows.fnExactAreEquivalentChipsSpec) :=
 OpenClaim.holds_of_wide 5 Try.f5 rfl rfl rfl rfl rfl rfl rfl ⟨rfl, rfl, rfl, rfl, rfl⟩ rfl rfl rfl rfl rfl (by kernel_rfl) Try.func5 (by kernel_rfl)
  (of_decide_eq_true (by kernel_rfl)) (by unfold Func.isWrapper;first|(rw [if_pos (by decide +kernel)];kernel_rfl)|(rw [if_neg (by decide +kernel)];exact ⟨rfl,rfl⟩))
  (fun os started H enc _=>lifted os started H enc)
theorem proved:Rows.FnExactAreEquivalentChipsSaid:=over
#print axioms proved
end Go.Proofs.Ytoebojnhchocaaa.Og
namespace Go.Proofs.Ytoebojnhchocaaa
/-- The row, under a short name, for the claim. -/
theorem fnExactAreEquivalentChips_holds:Rows.FnExactAreEquivalentChipsSaid:=Og.proved
end Go.Proofs.Ytoebojnhchocaaa
/- Set with little white space, by a program. -/
