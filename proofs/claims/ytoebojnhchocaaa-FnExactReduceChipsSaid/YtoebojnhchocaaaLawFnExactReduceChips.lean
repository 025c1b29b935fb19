/- Proves of FnExactReduceChips: whatever comes in, it answers true, and what came in reads as before. No condition. -/
import Derived.Test.YtoebojnhchocaaaRows
import Derived.Test.YtoebojnhchocaaaBWalk
import Derived.Test.YtoebojnhchocaaaBOpen
import Derived.Test.YtoebojnhchocaaaPureFnExactReduceChips
import Derived.WalkKit
import Derived.ProofKit
import Derived.OpenShut
import Derived.ShutString
import Derived.ChangeOld
import Derived.Below
import Derived.SizedLaws
import Derived.Lib.SmallJoins
import Derived.Deep.Matrix
import Derived.Deep.Strs
namespace Go.Proofs.Ytoebojnhchocaaa.Pp
open Go.RowKit Go.Proofs.bC.eg Go.Proofs.bC.iZ Go.Proofs.bC.jr
open Go.ChangeShapes Go.WideShapes Go.ChangeAt
open Go.ChangeMaps (open_string shut_string)
open Go.Proofs.Ytoebojnhchocaaa.B
set_option linter.unusedVariables false
set_option linter.unusedSimpArgs false
theorem own:ownKnob Try.prog.godebug=none:=by kernel_rfl
theorem laidOut:laidOutB Try.prog=true:=by kernel_rfl
theorem Jk:Try.prog.cellsOf 2=1:=by kernel_rfl
theorem XT:Try.prog.cellsOf 22=1:=by kernel_rfl
theorem OI:Try.prog.cellsOf 28=1:=by kernel_rfl
set_option maxRecDepth 100000 in
theorem lifted (os : Os) (started : os.Started) (H : Type) (enc : TypeId × Value → H) :
  ReturnsInHanded {} Try.checked os 4 .any (Rows.fnExactReduceChipsSpec.pre6 enc Try.prog Try.f4 Rows.fnExactReduceChipsRow.domain false) (Rows.fnExactReduceChipsSpec.post enc Try.prog Try.f4 false true false false):=by
 refine returnsInHanded_of_change_sized (C := Try.checked) own started (by kernel_rfl) Try.func4
  (ChangeSpec.witness6 (enc:=enc) (C:=Try.checked) false ⟨#[],#[.agg #[.int .i64 0,.slice none 0 0],.slice none 0 0,.int .i64 0],[]⟩ 8 (by kernel_rfl) (by kernel_rfl) (by kernel_rfl) (by kernel_rfl)) ?_
 intro W base args ds gs before R6 hW hcnd abY _
 have hval:∀ (j:Nat) t v,Try.f4.params[j]?=some t→args[j]?=some v→Value.okWide Try.prog W .any base t v:=R6
 have hW':=hW
 obtain ⟨p,q,hA0,hV,rfl,hfz,hnd⟩:=hW
 have hA:DataW.TrodAll enc Try.prog W 0 (fun _=>true) true Try.f4.params.toList args.toList ds p:=hA0
 rw [Try.params4] at hA hval
 obtain ⟨v0,vs0,d0,ds0,p0,q0,hargs,rfl,rfl,h0,r0⟩:=trodAll_cons hA
 obtain ⟨v1,vs1,d1,ds1,p1,q1,rfl,rfl,rfl,h1,r1⟩:=trodAll_cons r0
 obtain ⟨v2,vs2,d2,ds2,p2,q2,rfl,rfl,rfl,h2,r2⟩:=trodAll_cons r1
 obtain ⟨rfl,rfl,rfl⟩:=trodAll_nil r2
 obtain rfl:args=#[v0,v1,v2]:=by cases args;simp_all
 obtain ⟨rfl,rfl⟩:=trodVars_none hV
 have k0:=h0
 have lt0:∀ x ∈ p0,x.block < W.heap.size:=by obtain ⟨m,hm⟩:=k0;exact DataW.trod_lt m _ _ _ hm
 obtain ⟨aho,Kt⟩:=h0
 obtain ⟨XR,rfl,hs0⟩:=okWide_struct Try.underlying24 (hval 0 24 v0 rfl rfl)
 obtain ⟨agN,agO,rfl⟩:=WT XR (hs0.trans (by kernel_rfl))
 simp only [Value.cells] at Kt
 obtain ⟨ala,alb,akg,_,_,PJ,PK⟩:=trod_struct2 Try.underlying24 Kt
 simp only [Jk,XT,OI,List.drop_zero,List.take_succ_cons,List.take_zero,List.drop_succ_cons] at PJ PK
 obtain ⟨af,Js,_,Me⟩:=DataW.trod_int Try.underlying2 PJ
 injection Js with Js _
 subst Js
 obtain ⟨au,aq,aa,YJ,cn,abD,KJ,Mf⟩:=adO Try.underlying22 Try.underlying28 Try.underlying2 OI Jk PK
 subst YJ
 have k1:=h1
 have lt1:∀ x ∈ p1,x.block < W.heap.size:=by obtain ⟨m,hm⟩:=k1;exact DataW.trod_lt m _ _ _ hm
 obtain ⟨fuel1,xU⟩:=h1
 obtain ⟨aa1,akf,agL,rfl⟩:=okWide_slice Try.underlying28 (hval 1 28 v1 rfl rfl)
 simp only [Value.cells] at xU
 obtain ⟨A1,c1,l1,e1,dW,zy,zA,w1⟩:=adN Try.underlying28 Try.underlying2 Jk xU
 injection e1 with YL YM YN
 subst YL YM YN
 obtain ⟨a2,rfl,rfl,rfl,w2⟩:=open_int Try.underlying2 (hval 2 2 v2 rfl rfl) h2
 clear hA0 R6 abY
 refine (amz.calls Pure.UL af _ _ aa _ _ l1 a2 W abD cn zy dW Me KJ Mf zA w1 w2).mono ?_
 rintro e W' ⟨rfl,I7⟩
 exact ⟨_,rfl,_,_,_,[],_,[],hW',trodAll_mk1 (shut_bool Try.underlying4 _),(trodAll_cons_mk (Below.trod laidOut (by kernel_rfl) (of_decide_eq_true (by kernel_rfl)) k0 I7 lt0) (trodAll_cons_mk (Below.trod laidOut (by kernel_rfl) (of_decide_eq_true (by kernel_rfl)) k1 I7 lt1) (trodAll_cons_mk (shut_int Try.underlying2 w2) trodAll_mk0))),rfl,I7.frame _,fun h=>by cases h⟩
theorem over:Rows.fnExactReduceChipsRow.holds Try.pinned (OpenSpec.ofChange Rows.fnExactReduceChipsSpec) :=
 OpenClaim.holds_of_wide 4 Try.f4 rfl rfl rfl rfl rfl rfl rfl ⟨rfl, rfl, rfl, rfl, rfl⟩ rfl rfl rfl rfl rfl (by kernel_rfl) Try.func4 (by kernel_rfl)
  (of_decide_eq_true (by kernel_rfl)) (by unfold Func.isWrapper;first|(rw [if_pos (by decide +kernel)];kernel_rfl)|(rw [if_neg (by decide +kernel)];exact ⟨rfl,rfl⟩))
  (fun os started H enc _=>lifted os started H enc)
theorem proved:Rows.FnExactReduceChipsSaid:=over
#print axioms proved
end Go.Proofs.Ytoebojnhchocaaa.Pp
namespace Go.Proofs.Ytoebojnhchocaaa
/-- The row, under a short name, for the claim. -/
theorem fnExactReduceChips_holds:Rows.FnExactReduceChipsSaid:=Pp.proved
end Go.Proofs.Ytoebojnhchocaaa
/- Set with little white space, by a program. -/
