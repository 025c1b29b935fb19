/- Proves of FnExactOrderOfChips: whatever comes in, it answers true, and what came in reads as before. No condition. -/
import Derived.Test.YtoebojnhchocaaaRows
import Derived.Test.YtoebojnhchocaaaDx19
import Derived.Test.YtoebojnhchocaaaDOpen
import Derived.Test.YtoebojnhchocaaaPureFnExactOrderOfChips
import Derived.WalkKit
import Derived.ProofKit
import Derived.OpenShut
import Derived.ShutString
import Derived.ChangeOld
import Derived.Below
import Derived.SizedLaws
import Derived.Lib.SmallJoins
import Derived.Deep.Matrix
import Derived.Deep.Strs
namespace Go.Proofs.Ytoebojnhchocaaa.Pu
open Go.RowKit Go.Proofs.bR.eC Go.Proofs.bR.je Go.Proofs.bR.jO
open Go.ChangeShapes Go.WideShapes Go.ChangeAt
open Go.ChangeMaps (open_string shut_string)
open Go.Proofs.Ytoebojnhchocaaa.D
set_option linter.unusedVariables false
set_option linter.unusedSimpArgs false
theorem own:ownKnob Try.prog.godebug=none:=by kernel_rfl
theorem laidOut:laidOutB Try.prog=true:=by kernel_rfl
theorem Jl:Try.prog.cellsOf 2=1:=by kernel_rfl
theorem XP:Try.prog.cellsOf 22=1:=by kernel_rfl
theorem OM:Try.prog.cellsOf 28=1:=by kernel_rfl
set_option maxRecDepth 100000 in
theorem lifted (os : Os) (started : os.Started) (H : Type) (enc : TypeId × Value → H) :
  ReturnsInHanded {} Try.checked os 6 .any (Rows.fnExactOrderOfChipsSpec.pre6 enc Try.prog Try.f6 Rows.fnExactOrderOfChipsRow.domain false) (Rows.fnExactOrderOfChipsSpec.post enc Try.prog Try.f6 false true false false):=by
 refine returnsInHanded_of_change_sized (C := Try.checked) own started (by kernel_rfl) Try.func6
  (ChangeSpec.witness6 (enc:=enc) (C:=Try.checked) false ⟨#[],#[.agg #[.int .i64 0,.slice none 0 0],.slice none 0 0],[]⟩ 8 (by kernel_rfl) (by kernel_rfl) (by kernel_rfl) (by kernel_rfl)) ?_
 intro W base args ds gs before RR hW hcnd ab1 _
 have hval:∀ (j:Nat) t v,Try.f6.params[j]?=some t→args[j]?=some v→Value.okWide Try.prog W .any base t v:=RR
 have hW':=hW
 obtain ⟨p,q,hA0,hV,rfl,hfz,hnd⟩:=hW
 have hA:DataW.TrodAll enc Try.prog W 0 (fun _=>true) true Try.f6.params.toList args.toList ds p:=hA0
 rw [Try.params6] at hA hval
 obtain ⟨v0,vs0,d0,ds0,p0,q0,hargs,rfl,rfl,h0,r0⟩:=trodAll_cons hA
 obtain ⟨v1,vs1,d1,ds1,p1,q1,rfl,rfl,rfl,h1,r1⟩:=trodAll_cons r0
 obtain ⟨rfl,rfl,rfl⟩:=trodAll_nil r1
 obtain rfl:args=#[v0,v1]:=by cases args;simp_all
 obtain ⟨rfl,rfl⟩:=trodVars_none hV
 have k0:=h0
 have lt0:∀ x ∈ p0,x.block < W.heap.size:=by obtain ⟨m,hm⟩:=k0;exact DataW.trod_lt m _ _ _ hm
 obtain ⟨ahk,KB⟩:=h0
 obtain ⟨XN,rfl,hs0⟩:=okWide_struct Try.underlying24 (hval 0 24 v0 rfl rfl)
 obtain ⟨agL,agM,rfl⟩:=WT XN (hs0.trans (by kernel_rfl))
 simp only [Value.cells] at KB
 obtain ⟨alb,alc,akk,_,_,PN,PO⟩:=trod_struct2 Try.underlying24 KB
 simp only [Jl,XP,OM,List.drop_zero,List.take_succ_cons,List.take_zero,List.drop_succ_cons] at PN PO
 obtain ⟨af,Jx,_,afu⟩:=DataW.trod_int Try.underlying2 PN
 injection Jx with Jx _
 subst Jx
 obtain ⟨aq,ak,aa,YG,ck,abB,abE,afv⟩:=adP Try.underlying22 Try.underlying28 Try.underlying2 OM Jl PO
 subst YG
 have k1:=h1
 have lt1:∀ x ∈ p1,x.block < W.heap.size:=by obtain ⟨m,hm⟩:=k1;exact DataW.trod_lt m _ _ _ hm
 obtain ⟨fuel1,xp⟩:=h1
 obtain ⟨aa1,akj,agJ,rfl⟩:=okWide_slice Try.underlying28 (hval 1 28 v1 rfl rfl)
 simp only [Value.cells] at xp
 obtain ⟨A1,c1,l1,e1,eY,amX,RB,w1⟩:=adO Try.underlying28 Try.underlying2 Jl xp
 injection e1 with YI YJ YK
 subst YI YJ YK
 clear hA0 RR ab1
 obtain ⟨k,h⟩:=Pure.UJ af aa l1 afu abE afv RB w1
 refine (F6.calls k af _ _ aa _ _ l1 true W abB ck amX eY h).mono ?_
 rintro e W' ⟨rfl,I8⟩
 exact ⟨_,rfl,_,_,_,[],_,[],hW',trodAll_mk1 (shut_bool Try.underlying4 _),(trodAll_cons_mk (Below.trod laidOut (by kernel_rfl) (of_decide_eq_true (by kernel_rfl)) k0 I8 lt0) (trodAll_cons_mk (Below.trod laidOut (by kernel_rfl) (of_decide_eq_true (by kernel_rfl)) k1 I8 lt1) trodAll_mk0)),rfl,I8.frame _,fun h=>by cases h⟩
theorem over:Rows.fnExactOrderOfChipsRow.holds Try.pinned (OpenSpec.ofChange Rows.fnExactOrderOfChipsSpec) :=
 OpenClaim.holds_of_wide 6 Try.f6 rfl rfl rfl rfl rfl rfl rfl ⟨rfl, rfl, rfl, rfl, rfl⟩ rfl rfl rfl rfl rfl (by kernel_rfl) Try.func6 (by kernel_rfl)
  (of_decide_eq_true (by kernel_rfl)) (by unfold Func.isWrapper;first|(rw [if_pos (by decide +kernel)];kernel_rfl)|(rw [if_neg (by decide +kernel)];exact ⟨rfl,rfl⟩))
  (fun os started H enc _=>lifted os started H enc)
theorem proved:Rows.FnExactOrderOfChipsSaid:=over
#print axioms proved
end Go.Proofs.Ytoebojnhchocaaa.Pu
namespace Go.Proofs.Ytoebojnhchocaaa
/-- The row, under a short name, for the claim. -/
theorem fnExactOrderOfChips_holds:Rows.FnExactOrderOfChipsSaid:=Pu.proved
end Go.Proofs.Ytoebojnhchocaaa
/- Set with little white space, by a program. -/
