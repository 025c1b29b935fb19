/- Proves of FnExactQuotientOfCover: whatever comes in, it answers true, and what came in reads as before. No condition. -/
import Derived.Test.YtoebojnhchocaaaRows
import Derived.Test.YtoebojnhchocaaaAWalk
import Derived.Test.YtoebojnhchocaaaAOpen
import Derived.Test.YtoebojnhchocaaaPureFnExactQuotientOfCover
import Derived.WalkKit
import Derived.ProofKit
import Derived.OpenShut
import Derived.ShutString
import Derived.ChangeOld
import Derived.Below
import Derived.SizedLaws
import Derived.Lib.SmallJoins
import Derived.Deep.Matrix
import Derived.Deep.Strs
namespace Go.Proofs.Ytoebojnhchocaaa.fnExactQuotientOfCover
open Go.RowKit Go.Proofs.YtoebojnhchocaaaW.PrintWords Go.Proofs.YtoebojnhchocaaaW.PrintLast Go.Proofs.YtoebojnhchocaaaW.PrintMore
open Go.ChangeShapes Go.WideShapes Go.ChangeAt
open Go.ChangeMaps (open_string shut_string)
open Go.Proofs.Ytoebojnhchocaaa.A
set_option linter.unusedVariables false
set_option linter.unusedSimpArgs false
theorem own:ownKnob Try.prog.godebug=none:=by kernel_rfl
theorem laidOut:laidOutB Try.prog=true:=by kernel_rfl
theorem cc2:Try.prog.cellsOf 2=1:=by kernel_rfl
theorem cc22:Try.prog.cellsOf 22=1:=by kernel_rfl
theorem cc28:Try.prog.cellsOf 28=1:=by kernel_rfl
set_option maxRecDepth 100000 in
theorem lifted (os : Os) (started : os.Started) (H : Type) (enc : TypeId × Value → H) :
  ReturnsInHanded {} Try.checked os 3 .any (Rows.fnExactQuotientOfCoverSpec.pre6 enc Try.prog Try.f3 Rows.fnExactQuotientOfCoverRow.domain false) (Rows.fnExactQuotientOfCoverSpec.post enc Try.prog Try.f3 false true false false):=by
 refine returnsInHanded_of_change_sized (C := Try.checked) own started (by kernel_rfl) Try.func3
  (ChangeSpec.witness6 (enc:=enc) (C:=Try.checked) false ⟨#[],#[.agg #[.int .i64 0,.slice none 0 0,.int .i64 0,.slice none 0 0]],[]⟩ 8 (by kernel_rfl) (by kernel_rfl) (by kernel_rfl) (by kernel_rfl)) ?_
 intro W base args ds gs before hval0 hW hcnd hsz0 _
 have hval:∀ (j:Nat) t v,Try.f3.params[j]?=some t→args[j]?=some v→Value.okWide Try.prog W .any base t v:=hval0
 have hW':=hW
 obtain ⟨p,q,hA0,hV,rfl,hfz,hnd⟩:=hW
 have hA:DataW.TrodAll enc Try.prog W 0 (fun _=>true) true Try.f3.params.toList args.toList ds p:=hA0
 rw [Try.params3] at hA hval
 obtain ⟨v0,vs0,d0,ds0,p0,q0,hargs,rfl,rfl,h0,r0⟩:=trodAll_cons hA
 obtain ⟨rfl,rfl,rfl⟩:=trodAll_nil r0
 obtain rfl:args=#[v0]:=by cases args;simp_all
 obtain ⟨rfl,rfl⟩:=trodVars_none hV
 have k0:=h0
 have lt0:∀ x ∈ p0,x.block < W.heap.size:=by obtain ⟨m,hm⟩:=k0;exact DataW.trod_lt m _ _ _ hm
 obtain ⟨fuel0,hf0⟩:=h0
 obtain ⟨ca0,rfl,hs0⟩:=okWide_struct Try.underlying26 (hval 0 26 v0 rfl rfl)
 obtain ⟨cc0_0,cc0_1,cc0_2,cc0_3,rfl⟩:=arr4 ca0 (hs0.trans (by kernel_rfl))
 simp only [Value.cells] at hf0
 obtain ⟨yhf0_0,yhf0_1,yhf0_2,nhf0,_,_,ghf0_0,ghf0_1,ghf0_2⟩:=Deep.trod_struct3 Try.underlying26 hf0
 simp only [cc2,cc22,cc28,List.drop_zero,List.take_succ_cons,List.take_zero,List.drop_succ_cons,show Try.prog.cellsOf 24=2 from by kernel_rfl] at ghf0_0 ghf0_1 ghf0_2
 obtain ⟨yghf0_0_0,yghf0_0_1,nghf0_0,_,_,gghf0_0_0,gghf0_0_1⟩:=trod_struct2 Try.underlying24 ghf0_0
 simp only [cc2,cc22,cc28,List.drop_zero,List.take_succ_cons,List.take_zero,List.drop_succ_cons] at gghf0_0_0 gghf0_0_1
 obtain ⟨a0_0,e0_0,_,w0_0⟩:=DataW.trod_int Try.underlying2 gghf0_0_0
 injection e0_0 with e0_0 _
 subst e0_0
 obtain ⟨A0_1,c0_1,l0_1,e0_1,hc0_1,hk0_1,hm0_1,w0_1⟩:=open_rows Try.underlying22 Try.underlying28 Try.underlying2 cc28 cc2 gghf0_0_1
 subst e0_1
 obtain ⟨a0_2,e0_2,_,w0_2⟩:=DataW.trod_int Try.underlying2 ghf0_1
 injection e0_2 with e0_2 _
 subst e0_2
 obtain ⟨A0_3,c0_3,l0_3,e0_3,hc0_3,hk0_3,hm0_3,w0_3⟩:=open_rows Try.underlying22 Try.underlying28 Try.underlying2 cc28 cc2 ghf0_2
 subst e0_3
 clear hA0 hval0 hsz0
 refine (laws_FnExactQuotientOfCover.calls Pure.FnExactQuotientOfCover a0_0 _ _ l0_1 a0_2 _ _ l0_3 W hk0_1 hc0_1 hk0_3 hc0_3 w0_0 hm0_1 w0_1 w0_2 hm0_3 w0_3).mono ?_
 rintro e W' ⟨rfl,bel⟩
 exact ⟨_,rfl,_,_,_,[],_,[],hW',trodAll_mk1 (shut_bool Try.underlying4 _),(trodAll_cons_mk (Below.trod laidOut (by kernel_rfl) (of_decide_eq_true (by kernel_rfl)) k0 bel lt0) trodAll_mk0),rfl,bel.frame _,fun h=>by cases h⟩
theorem over:Rows.fnExactQuotientOfCoverRow.holds Try.pinned (OpenSpec.ofChange Rows.fnExactQuotientOfCoverSpec) :=
 OpenClaim.holds_of_wide 3 Try.f3 rfl rfl rfl rfl rfl rfl rfl ⟨rfl, rfl, rfl, rfl, rfl⟩ rfl rfl rfl rfl rfl (by kernel_rfl) Try.func3 (by kernel_rfl)
  (of_decide_eq_true (by kernel_rfl)) (by unfold Func.isWrapper;first|(rw [if_pos (by decide +kernel)];kernel_rfl)|(rw [if_neg (by decide +kernel)];exact ⟨rfl,rfl⟩))
  (fun os started H enc _=>lifted os started H enc)
theorem proved:Rows.FnExactQuotientOfCoverSaid:=over
#print axioms proved
end Go.Proofs.Ytoebojnhchocaaa.fnExactQuotientOfCover
namespace Go.Proofs.Ytoebojnhchocaaa
/-- The row, under a short name, for the claim. -/
theorem fnExactQuotientOfCover_holds:Rows.FnExactQuotientOfCoverSaid:=fnExactQuotientOfCover.proved
end Go.Proofs.Ytoebojnhchocaaa
/- Set with little white space, by a program. -/
