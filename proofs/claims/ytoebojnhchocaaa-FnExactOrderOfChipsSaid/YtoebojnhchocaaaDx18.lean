/- The functions that one law reaches, each as a Lean function, and that Go's call comes to what it says. Condition of each: that the Lean function answers (is not none). -/
import Derived.Test.YtoebojnhchocaaaDx0
import Derived.Test.YtoebojnhchocaaaDx11
import Derived.Test.YtoebojnhchocaaaDx13
import Derived.Test.YtoebojnhchocaaaDx15
import Derived.Test.YtoebojnhchocaaaDx16
import Derived.Test.YtoebojnhchocaaaDx17
namespace Go.Proofs.Ytoebojnhchocaaa.D
open Go.RowKit Go.Proofs.bR.eC Go.Proofs.bR.je Go.Proofs.bR.jO
attribute [local go_sem] max2_int min2_int max_two min_two max_three min_three max_four min_four   -- for this text's walks alone
set_option linter.unusedVariables false
set_option linter.unusedSimpArgs false
/-! ### F93: function 93 -/
theorem SI (w:World) (a:Option Addr) (n c:Nat):(binOp .neq 28 (.slice a n c) (.slice none 0 0)).run Try.prog w=.ok (.bool (!a.isNone)) w:=run_neq_slice_nil w 28 2 a n c Try.underlying28
mutual
def bV.l0 : Nat → Int → List Int → Int → List (List Int) → List Int → Int → Option (List Int)
 | 0,_,_,_,_,_,_=>none
 | k+1,x2,pY,bF,bE,qG,tW=>if tW > 0 then (if 0≤bF then (if (bF:Int).toNat≤35184372088832 then ((some (List.replicate (bF:Int).toNat 0:List Int)).bind fun qJ=>(bV.l1 k x2 qJ pY (qJ.length:Int) 0 bF bE qG pY tW)) else (none)) else (none)) else ((alv.f k bF bE qG x2).bind fun t123=>(bV.l3 k x2 t123 bF bE qG))
def bV.l1 : Nat → Int → List Int → List Int → Int → Int → Int → List (List Int) → List Int → List Int → Int → Option (List Int)
 | 0,_,_,_,_,_,_,_,_,_,_=>none
 | k+1,x2,dS,pY,Mn,amN,bF,bE,qG,amM,tW=>if amN < Mn then (if 0≤amN then (if amN < (amM.length:Int) then (if (rd amM amN) < tW then (if amN < (dS.length:Int) then (bV.l1 k x2 (dS.set (amN:Int).toNat 1) pY Mn (wrap64 (amN+1)) bF bE qG amM tW) else (none)) else (bV.l1 k x2 dS pY Mn (wrap64 (amN+1)) bF bE qG amM tW)) else (none)) else (none)) else (bV.l2 k x2 dS pY bF bE qG amM tW)
def bV.l2 : Nat → Int → List Int → List Int → Int → List (List Int) → List Int → List Int → Int → Option (List Int)
 | 0,_,_,_,_,_,_,_,_=>none
 | k+1,x2,dS,pY,bF,bE,qG,amM,tW=>(alQ.f k bF bE).bind fun t116=>((nX.f k t116 amM tW qG).bind fun t119=>(if t119=true then ((cC.f k bF bE qG dS).bind fun t120=>(bV.l2 k x2 dS pY bF bE t120 amM tW)) else (bV.l0 k x2 pY bF bE qG (wrap64 (tW - 1)))))
def bV.l3 : Nat → Int → List Int → Int → List (List Int) → List Int → Option (List Int)
 | 0,_,_,_,_,_=>none
 | k+1,x2,fP,bF,bE,qG=>if (fP.length:Int)=0 then (some qG) else ((cC.f k bF bE qG fP).bind fun t126=>((alv.f k bF bE t126 x2).bind fun t129=>(bV.l3 k x2 t129 bF bE t126)))
end
def bV.f (k:Nat) (af:Int) (aa:List (List Int)) (l1:List Int) (a2:Int):Option (List Int):=(ct.f k af aa l1 a2).bind fun t102=>((cG.f k af aa a2).bind fun t105=>(bV.l0 k a2 t105 af aa t102 af))
theorem bV.bU : ∀ k, (∀ y0 y1 y2 y3 y4 y5, aj (bV.l0 k y0 y1 y2 y3 y4 y5) (bV.l0 (k + 1) y0 y1 y2 y3 y4 y5)) ∧ (∀ y0 y1 y2 y3 y4 y5 y6 y7 y8 y9, aj (bV.l1 k y0 y1 y2 y3 y4 y5 y6 y7 y8 y9) (bV.l1 (k + 1) y0 y1 y2 y3 y4 y5 y6 y7 y8 y9)) ∧ (∀ y0 y1 y2 y3 y4 y5 y6 y7, aj (bV.l2 k y0 y1 y2 y3 y4 y5 y6 y7) (bV.l2 (k + 1) y0 y1 y2 y3 y4 y5 y6 y7)) ∧ (∀ y0 y1 y2 y3 y4, aj (bV.l3 k y0 y1 y2 y3 y4) (bV.l3 (k + 1) y0 y1 y2 y3 y4))
 | 0=>⟨fun _ _ _ _ _ _ r h=>by simp [bV.l0] at h,fun _ _ _ _ _ _ _ _ _ _ r h=>by simp [bV.l1] at h,fun _ _ _ _ _ _ _ _ r h=>by simp [bV.l2] at h,fun _ _ _ _ _ r h=>by simp [bV.l3] at h⟩
 | k+1=>by
  obtain ⟨alg,ih1,ih2,ih3⟩:=bV.bU k
  refine ⟨?_, ?_, ?_, ?_⟩ <;> intros <;> (first | unfold bV.l0 | unfold bV.l1 | unfold bV.l2 | unfold bV.l3) <;> repeat' first
   | (with_reducible first|exact alg _ _ _ _ _ _|exact ih1 _ _ _ _ _ _ _ _ _ _|exact ih2 _ _ _ _ _ _ _ _|exact ih3 _ _ _ _ _|exact cG.mono _ _ _ _|exact cC.mono _ _ _ _ _|exact alQ.mono _ _ _|exact ct.mono _ _ _ _ _|exact alv.mono _ _ _ _ _|exact nX.mono _ _ _ _ _|exact aj.refl _|exact aj.none _|refine aj.ite ?_ ?_|refine aj.bind ?_ (fun _=>?_))
   | exact alg _ _ _ _ _ _|exact ih1 _ _ _ _ _ _ _ _ _ _|exact ih2 _ _ _ _ _ _ _ _|exact ih3 _ _ _ _ _|exact cG.mono _ _ _ _|exact cC.mono _ _ _ _ _|exact alQ.mono _ _ _|exact ct.mono _ _ _ _ _|exact alv.mono _ _ _ _ _|exact nX.mono _ _ _ _ _|exact aj.none _|refine aj.ite ?_ ?_|refine aj.bind ?_ (fun _=>?_)
theorem bV.mono:∀ a0 a1 a2 a3 k,aj (bV.f k a0 a1 a2 a3) (bV.f (k+1) a0 a1 a2 a3):=by
 intro a0 a1 a2 a3 k
 obtain ⟨alg,ih1,ih2,ih3⟩:=bV.bU k
 unfold bV.f
 repeat' first
  | (with_reducible first|exact alg _ _ _ _ _ _|exact ih1 _ _ _ _ _ _ _ _ _ _|exact ih2 _ _ _ _ _ _ _ _|exact ih3 _ _ _ _ _|exact cG.mono _ _ _ _|exact cC.mono _ _ _ _ _|exact alQ.mono _ _ _|exact ct.mono _ _ _ _ _|exact alv.mono _ _ _ _ _|exact nX.mono _ _ _ _ _|exact aj.refl _|exact aj.none _|refine aj.ite ?_ ?_|refine aj.bind ?_ (fun _=>?_))
  | exact alg _ _ _ _ _ _|exact ih1 _ _ _ _ _ _ _ _ _ _|exact ih2 _ _ _ _ _ _ _ _|exact ih3 _ _ _ _ _|exact cG.mono _ _ _ _|exact cC.mono _ _ _ _ _|exact alQ.mono _ _ _|exact ct.mono _ _ _ _ _|exact alv.mono _ _ _ _ _|exact nX.mono _ _ _ _ _|exact aj.none _|refine aj.ite ?_ ?_|refine aj.bind ?_ (fun _=>?_)
def bV.T1:Bool × List (List Nat × List Nat):=(true,[([],[]),([],[]),([],[]),([0,1,2],[0,1,2]),([],[]),([],[]),([4,5,3],[4,5]),([],[]),([],[]),([7,3,6,0,1,2,3,7,8],[3,7]),([8,6,9,0,1,2,3,4,5,6,7,8,9],[6,8])])
def bV.B1:List Nat:=[0,0,0,7,0,0,63,0,0,511,1023]
theorem bV.aeY:gv .any (opsOf Try.f93 1)=bV.T1:=by kernel_rfl
theorem bV.WZ:mN bV.T1.2 bV.B1=true:=by kernel_rfl
set_option maxHeartbeats 8000000 in
set_option maxRecDepth 100000 in
theorem bV.calls (k : Nat) (af : Int) (aq : Option Addr) (ak : Nat) (aa : List (List Int)) (A1 : Option Addr) (c1 : Nat) (l1 : List Int) (a2 : Int) (r : List Int) (w : World) (aly : Kd.C (Kd.slice 2 (Kd.int .i64)) w aq aa.length aa) (ck : aa.length ≤ ak) (c_ : Kd.C (Kd.int .i64) w A1 l1.length l1) (eY : l1.length ≤ c1) (h : bV.f k af aa l1 a2 = some r) :
  Calls Try.prog 93 #[.agg #[.int .i64 af,.slice aq aa.length ak],.slice A1 l1.length c1,.int .i64 a2] w fun e w'=>∃ dH:Value,e=.returned (dH)∧Kd.R (Kd.int .i64) 2 w' w.heap.size (fun _=>True) dH r∧Below w.heap.size w w':=by
 have j9:=Try.underlying31
 have bZ:=k0 aly
 have cD:=k0 ck
 clear aly ck
 have eP:=k0 c_
 have kT:=k0 eY
 clear c_ eY
 have HB:=k0 (Below.refl w.heap.size w)
 have H:((ct.f k af aa l1 a2).bind fun t102=>((cG.f k af aa a2).bind fun t105=>(bV.l0 k a2 t105 af aa t102 af)))=some r:=h
 clear h
 replace H:=Option.bind_eq_some_iff.mp H
 obtain ⟨t102,lM,H⟩:=H
 replace H:((cG.f k af aa a2).bind fun t105=>(bV.l0 k a2 t105 af aa t102 af))=some r:=H
 have A4:=k0 lM
 clear lM
 replace H:=Option.bind_eq_some_iff.mp H
 obtain ⟨t105,p4,H⟩:=H
 replace H:(bV.l0 k a2 t105 af aa t102 af)=some r:=H
 have A5:=k0 p4
 clear p4
 have H':=k0 H
 clear H
 go_enter Try.func93,Try.ntmps93
 try go_wp2_with (first|((with_reducible refine cj (N:=3) rfl ?_);refine dK ?hg (N:=3) ?hd (cs:=#[.int .i64 af,.slice aq aa.length ak]) (t:=31) ?hr ?_;(case hd=>rfl);(case hg=>rfl);(case hr=>first|(go_simp;done)|(go_simp;rfl));intro ai hg w6 aJ hb;have ag:=k0 (aJ);have b8:=k0 ((by rw [hg];exact (alk bl):w.heap.size≤ai));have eB:=b8;replace HB:=k0 (aI bl hb);clear hb aJ hg))
 replace ag:=k0 (cw ag.out);replace HB:=k0 (cP HB.out)
 refine lU (n:=11) (S:=fun w'=>w'.cell? ⟨ai,0,none⟩=some (.int .i64 af)∧w'.cell? ⟨ai,1,none⟩=some (.slice aq aa.length ak)) (ds:=[]) (ba 11 0) (by kernel_rfl) rfl rfl ⟨(av ag.out 0).trans rfl,(av ag.out 1).trans rfl⟩ (fun hHeld=>?_);refine pW bV.aeY bV.WZ (fun ay cZ=>?_)
 generalize w6.drew=w7 at ag HB hHeld ⊢
 refine pu 1 (some 14) (ba 11 2) ay (h:=?_)
 refine pu 2 (some 15) (ba 11 6) ay (h:=?_)
 refine pu 5 (some 18) (ba 11 38) ay (h:=?_)
 refine ta 0 (some 13) (ba 11 39) ay cZ hHeld (hy:=Or.inl ⟨by rfl,by rintro w' ⟨s0,s1⟩;go_simp;with_reducible rfl⟩) (h:=?_)
 refine ta 4 (some 17) (ba 11 55) ay cZ hHeld (hy:=Or.inl ⟨by rfl,by rintro w' ⟨s0,s1⟩;go_simp;with_reducible rfl⟩) (h:=?_)
 refine r8 (σ:=Value × Value × Nat × Nat) 2 (ba 11 511) (fun s_=>[(16,s_.1),(19,s_.2.1),(7,.pointer (some ⟨s_.2.2.1,0,none⟩)),(8,.pointer (some ⟨s_.2.2.2,0,none⟩))]) (fun s_ w'=>(w'.cell? ⟨ai,0,none⟩=some (.int .i64 af)∧w'.cell? ⟨ai,1,none⟩=some (.slice aq aa.length ak))∧(Kd.R (Kd.int .i64) 2 w' w.heap.size (fun k_=>some k_ ≠ (s_.2.1:Value).ownBlock) s_.1 t102)∧(Kd.R (Kd.int .i64) 2 w' w.heap.size (fun k_=>some k_ ≠ (s_.1:Value).ownBlock) s_.2.1 t105)∧(w'.heap[ai]?=some (sO af aq aa ak 31))∧(w'.heap[s_.2.2.1]?=some (.cells #[.slice none 0 0] 28 (0,0)))∧(w'.heap[s_.2.2.2]?=some (.cells #[.slice none 0 0] 28 (0,0)))∧(w.heap.size≤s_.2.2.1)∧(w.heap.size≤s_.2.2.1)∧(ai ≠ s_.2.2.1)∧(s_.2.2.1 ≠ ai)∧(s_.2.2.2 ≠ s_.2.2.1)∧(s_.2.2.1 ≠ s_.2.2.2)∧(w.heap.size≤s_.2.2.2)∧(w.heap.size≤s_.2.2.2)∧(ai ≠ s_.2.2.2)∧(s_.2.2.2 ≠ ai)∧(Below w.heap.size w w')) ?_ ?_
 rotate_left
 ·intro J5
  refine r8 (σ:=Value × Value × Nat) 3 (ba 11 255) (fun s_=>[(16,s_.1),(19,s_.2.1),(7,.pointer (some ⟨s_.2.2,0,none⟩))]) (fun s_ w'=>(w'.cell? ⟨ai,0,none⟩=some (.int .i64 af)∧w'.cell? ⟨ai,1,none⟩=some (.slice aq aa.length ak))∧(Kd.R (Kd.int .i64) 2 w' w.heap.size (fun k_=>some k_ ≠ (s_.2.1:Value).ownBlock) s_.1 t102)∧(Kd.R (Kd.int .i64) 2 w' w.heap.size (fun k_=>some k_ ≠ (s_.1:Value).ownBlock) s_.2.1 t105)∧(w'.heap[ai]?=some (sO af aq aa ak 31))∧(w'.heap[s_.2.2]?=some (.cells #[.slice none 0 0] 28 (0,0)))∧(w.heap.size≤s_.2.2)∧(w.heap.size≤s_.2.2)∧(ai ≠ s_.2.2)∧(s_.2.2 ≠ ai)∧(Below w.heap.size w w')) ?_ ?_
  rotate_left
  ·intro PZ
   refine r8 (σ:=Value × Value × Nat) 3 (ba 11 383) (fun s_=>[(16,s_.1),(19,s_.2.1),(8,.pointer (some ⟨s_.2.2,0,none⟩))]) (fun s_ w'=>(w'.cell? ⟨ai,0,none⟩=some (.int .i64 af)∧w'.cell? ⟨ai,1,none⟩=some (.slice aq aa.length ak))∧(Kd.R (Kd.int .i64) 2 w' w.heap.size (fun k_=>some k_ ≠ (s_.2.1:Value).ownBlock) s_.1 t102)∧(Kd.R (Kd.int .i64) 2 w' w.heap.size (fun k_=>some k_ ≠ (s_.1:Value).ownBlock) s_.2.1 t105)∧(w'.heap[ai]?=some (sO af aq aa ak 31))∧(w'.heap[s_.2.2]?=some (.cells #[.slice none 0 0] 28 (0,0)))∧(w.heap.size≤s_.2.2)∧(w.heap.size≤s_.2.2)∧(ai ≠ s_.2.2)∧(s_.2.2 ≠ ai)∧(Below w.heap.size w w')) ?_ ?_
   rotate_left
   ·intro P0
    refine r8 (σ:=Value × Nat × Nat) 3 (ba 11 447) (fun s_=>[(16,s_.1),(7,.pointer (some ⟨s_.2.1,0,none⟩)),(8,.pointer (some ⟨s_.2.2,0,none⟩))]) (fun s_ w'=>(w'.cell? ⟨ai,0,none⟩=some (.int .i64 af)∧w'.cell? ⟨ai,1,none⟩=some (.slice aq aa.length ak))∧(Kd.R (Kd.int .i64) 2 w' w.heap.size (fun _=>True) s_.1 t102)∧(w'.heap[ai]?=some (sO af aq aa ak 31))∧(w'.heap[s_.2.1]?=some (.cells #[.slice none 0 0] 28 (0,0)))∧(w'.heap[s_.2.2]?=some (.cells #[.slice none 0 0] 28 (0,0)))∧(w.heap.size≤s_.2.1)∧(w.heap.size≤s_.2.1)∧(ai ≠ s_.2.1)∧(s_.2.1 ≠ ai)∧(s_.2.2 ≠ s_.2.1)∧(s_.2.1 ≠ s_.2.2)∧(w.heap.size≤s_.2.2)∧(w.heap.size≤s_.2.2)∧(ai ≠ s_.2.2)∧(s_.2.2 ≠ ai)∧(Below w.heap.size w w')) ?_ ?_
    rotate_left
    ·intro J6
     refine r8 (σ:=Value × Value) 4 (ba 11 127) (fun s_=>[(16,s_.1),(19,s_.2)]) (fun s_ w'=>(w'.cell? ⟨ai,0,none⟩=some (.int .i64 af)∧w'.cell? ⟨ai,1,none⟩=some (.slice aq aa.length ak))∧(Kd.R (Kd.int .i64) 2 w' w.heap.size (fun k_=>some k_ ≠ (s_.2:Value).ownBlock) s_.1 t102)∧(Kd.R (Kd.int .i64) 2 w' w.heap.size (fun k_=>some k_ ≠ (s_.1:Value).ownBlock) s_.2 t105)∧(w'.heap[ai]?=some (sO af aq aa ak 31))∧(Below w.heap.size w w')) ?_ ?_
     rotate_left
     ·intro ZR
      refine r8 (σ:=Value × Nat) 4 (ba 11 191) (fun s_=>[(16,s_.1),(7,.pointer (some ⟨s_.2,0,none⟩))]) (fun s_ w'=>(w'.cell? ⟨ai,0,none⟩=some (.int .i64 af)∧w'.cell? ⟨ai,1,none⟩=some (.slice aq aa.length ak))∧(Kd.R (Kd.int .i64) 2 w' w.heap.size (fun _=>True) s_.1 t102)∧(w'.heap[ai]?=some (sO af aq aa ak 31))∧(w'.heap[s_.2]?=some (.cells #[.slice none 0 0] 28 (0,0)))∧(w.heap.size≤s_.2)∧(w.heap.size≤s_.2)∧(ai ≠ s_.2)∧(s_.2 ≠ ai)∧(Below w.heap.size w w')) ?_ ?_
      rotate_left
      ·intro P1
       refine r8 (σ:=Value × Nat) 4 (ba 11 319) (fun s_=>[(16,s_.1),(8,.pointer (some ⟨s_.2,0,none⟩))]) (fun s_ w'=>(w'.cell? ⟨ai,0,none⟩=some (.int .i64 af)∧w'.cell? ⟨ai,1,none⟩=some (.slice aq aa.length ak))∧(Kd.R (Kd.int .i64) 2 w' w.heap.size (fun _=>True) s_.1 t102)∧(w'.heap[ai]?=some (sO af aq aa ak 31))∧(w'.heap[s_.2]?=some (.cells #[.slice none 0 0] 28 (0,0)))∧(w.heap.size≤s_.2)∧(w.heap.size≤s_.2)∧(ai ≠ s_.2)∧(s_.2 ≠ ai)∧(Below w.heap.size w w')) ?_ ?_
       rotate_left
       ·intro P2
        refine r8 (σ:=Nat × Nat) 4 (ba 11 439) (fun s_=>[(7,.pointer (some ⟨s_.1,0,none⟩)),(8,.pointer (some ⟨s_.2,0,none⟩))]) (fun s_ w'=>(w'.cell? ⟨ai,0,none⟩=some (.int .i64 af)∧w'.cell? ⟨ai,1,none⟩=some (.slice aq aa.length ak))∧(w'.heap[ai]?=some (sO af aq aa ak 31))∧(w'.heap[s_.1]?=some (.cells #[.slice none 0 0] 28 (0,0)))∧(w'.heap[s_.2]?=some (.cells #[.slice none 0 0] 28 (0,0)))∧(w.heap.size≤s_.1)∧(w.heap.size≤s_.1)∧(ai ≠ s_.1)∧(s_.1 ≠ ai)∧(s_.2 ≠ s_.1)∧(s_.1 ≠ s_.2)∧(w.heap.size≤s_.2)∧(w.heap.size≤s_.2)∧(ai ≠ s_.2)∧(s_.2 ≠ ai)∧(Below w.heap.size w w')) ?_ ?_
        rotate_left
        ·intro P3
         refine r8 (σ:=Value) 5 (ba 11 63) (fun s_=>[(16,s_)]) (fun s_ w'=>(w'.cell? ⟨ai,0,none⟩=some (.int .i64 af)∧w'.cell? ⟨ai,1,none⟩=some (.slice aq aa.length ak))∧(Kd.R (Kd.int .i64) 2 w' w.heap.size (fun _=>True) s_ t102)∧(w'.heap[ai]?=some (sO af aq aa ak 31))∧(Below w.heap.size w w')) ?_ ?_
         rotate_left
         ·intro ZQ
          refine r8 (σ:=Nat) 5 (ba 11 183) (fun s_=>[(7,.pointer (some ⟨s_,0,none⟩))]) (fun s_ w'=>(w'.cell? ⟨ai,0,none⟩=some (.int .i64 af)∧w'.cell? ⟨ai,1,none⟩=some (.slice aq aa.length ak))∧(w'.heap[ai]?=some (sO af aq aa ak 31))∧(w'.heap[s_]?=some (.cells #[.slice none 0 0] 28 (0,0)))∧(w.heap.size≤s_)∧(w.heap.size≤s_)∧(ai ≠ s_)∧(s_ ≠ ai)∧(Below w.heap.size w w')) ?_ ?_
          rotate_left
          ·intro ZS
           refine r8 (σ:=Nat) 5 (ba 11 311) (fun s_=>[(8,.pointer (some ⟨s_,0,none⟩))]) (fun s_ w'=>(w'.cell? ⟨ai,0,none⟩=some (.int .i64 af)∧w'.cell? ⟨ai,1,none⟩=some (.slice aq aa.length ak))∧(w'.heap[ai]?=some (sO af aq aa ak 31))∧(w'.heap[s_]?=some (.cells #[.slice none 0 0] 28 (0,0)))∧(w.heap.size≤s_)∧(w.heap.size≤s_)∧(ai ≠ s_)∧(s_ ≠ ai)∧(Below w.heap.size w w')) ?_ ?_
           rotate_left
           ·intro ZT
            refine Tj (i:=3) (j:=7) (k:=8) (Ni:=some 16) (Nj:=some 7) (Nk:=some 8) (ba 11 63) (ba 11 183) (ba 11 311) rfl rfl rfl rfl rfl rfl (Tk ay.out (by kernel_rfl)) (by decide) (by decide) (by decide) (fun K hK=>?_) (fun K hK=>?_) (fun K hK=>?_)
            ·skip
             refine mY Try.func183 (by kernel_rfl) rfl #[.agg #[.int .i64 af,.slice aq aa.length ak],.slice A1 l1.length c1,.int .i64 a2] (by rfl) rfl rfl gm ?_
             with_reducible refine (ct.calls k af _ _ aa _ _ l1 a2 t102 _ ?aT ?aU ?cy ?cI A4.out).mono ?_
             (case aT=>exact aC (Kd.bK bZ.out HB.out))
             (case aU=>exact cD.out)
             (case cy=>exact aC (Kd.bK eP.out HB.out))
             (case cI=>exact kT.out)
             rintro e w8 ⟨dn,rfl,aM,hb⟩
             refine ⟨_,rfl,?_⟩
             have bq:=k0 (Kd.dI aM (alk bl));replace ag:=k0 (alm (g:=ai) (o:=sO af aq aa ak 31) bk hb);replace HB:=k0 (aI bl hb)
             (try clear hb);(try clear aM)
             refine hK.out _ _ ⟨(av ag.out 0).trans rfl,(av ag.out 1).trans rfl⟩ (fun hHeld=>?_)
             clear hK K
             refine cQ (a':=?_) ?_ ?_
             rotate_left;· show Act.put _ (some 16) _=_;simp only [Act.put,zI,zZ,zS,cl,cv];rfl
             exact cQ (by first|(simp only [ej,Act.put,zI,zZ,zS];done)|(simp only [ej,Act.put,zI,zZ,zS];rfl)) (ZQ (dn) _ ⟨hHeld,(aR bq.out),bk,bl⟩)
            ·skip
             refine rM ?hg (N:=7) ?hd (cs:=#[.slice none 0 0]) (t:=28) ?hr ?_;(case hd=>rfl);(case hg=>rfl);(case hr=>first|(go_simp;done)|(go_simp;rfl))
             intro bf hg w8 aJ hb
             have cm:=k0 (aJ);have jL:=k0 ((by rw [hg];exact (alk bl):w.heap.size≤bf));have ku:=jL;replace HB:=k0 (aI bl hb);have gu:=k0 ((by rw [hg];exact Nat.ne_of_lt (cJ (g:=ai) (o:=sO af aq aa ak 31) bk):ai ≠ bf));have iE:=k0 ((by rw [hg];exact Nat.ne_of_gt (cJ (g:=ai) (o:=sO af aq aa ak 31) bk):bf ≠ ai));replace ag:=k0 (alm (g:=ai) (o:=sO af aq aa ak 31) bk hb)
             clear hb aJ hg
             refine hK.out _ _ ⟨(av ag.out 0).trans rfl,(av ag.out 1).trans rfl⟩ (fun hHeld=>?_)
             clear hK K
             refine cQ (a':=?_) ?_ ?_
             rotate_left;· show Act.put _ (some 7) _=_;simp only [Act.put,zI,zZ,zS,cl,cv];rfl
             exact cQ (by first|(simp only [ej,Act.put,zI,zZ,zS];done)|(simp only [ej,Act.put,zI,zZ,zS];rfl)) (ZS (bf) _ ⟨hHeld,bk,bk,jL.out,ku.out,gu.out,iE.out,bl⟩)
            ·skip
             refine rM ?hg (N:=8) ?hd (cs:=#[.slice none 0 0]) (t:=28) ?hr ?_;(case hd=>rfl);(case hg=>rfl);(case hr=>first|(go_simp;done)|(go_simp;rfl))
             intro bp hg w8 aJ hb
             have dr:=k0 (aJ);have jM:=k0 ((by rw [hg];exact (alk bl):w.heap.size≤bp));have kz:=jM;replace HB:=k0 (aI bl hb);have alI:=k0 ((by rw [hg];exact Nat.ne_of_lt (cJ (g:=ai) (o:=sO af aq aa ak 31) bk):ai ≠ bp));have iP:=k0 ((by rw [hg];exact Nat.ne_of_gt (cJ (g:=ai) (o:=sO af aq aa ak 31) bk):bp ≠ ai));replace ag:=k0 (alm (g:=ai) (o:=sO af aq aa ak 31) bk hb)
             clear hb aJ hg
             refine hK.out _ _ ⟨(av ag.out 0).trans rfl,(av ag.out 1).trans rfl⟩ (fun hHeld=>?_)
             clear hK K
             refine cQ (a':=?_) ?_ ?_
             rotate_left;· show Act.put _ (some 8) _=_;simp only [Act.put,zI,zZ,zS,cl,cv];rfl
             exact cQ (by first|(simp only [ej,Act.put,zI,zZ,zS];done)|(simp only [ej,Act.put,zI,zZ,zS];rfl)) (ZT (bp) _ ⟨hHeld,bk,bk,jM.out,kz.out,alI.out,iP.out,bl⟩)
           ·skip
            rintro bp w9 ⟨lG,alL,fq,gC,iJ,jh,ji,j6⟩
            have aE:au (w9.heap[ai]?=some (sO af aq aa ak 31)):=⟨alL⟩
            have aH:au (w9.heap[bp]?=some (.cells #[.slice none 0 0] 28 (0,0))):=⟨fq⟩
            have aK:au (w.heap.size≤bp):=⟨gC⟩
            have a_:au (w.heap.size≤bp):=⟨iJ⟩
            have alp:au (ai ≠ bp):=⟨jh⟩
            have bw:au (bp ≠ ai):=⟨ji⟩
            have alx:au (Below w.heap.size w w9):=⟨j6⟩
            clear ag
            clear HB
            clear alL fq gC iJ jh ji j6
            have ag:=aE
            have dr:=aH
            have jM:=aK
            have kz:=a_
            have alI:=alp
            have iP:=bw
            have HB:=alx
            clear aE aH aK a_ alp bw alx
            have hHeld:w9.cell? ⟨ai,0,none⟩=some (.int .i64 af)∧w9.cell? ⟨ai,1,none⟩=some (.slice aq aa.length ak):=lG
            refine cQ (a':=?_) ?_ ?_
            rotate_left;· simp only [ej,Act.put,zI,zZ,zS];rfl
            refine Bw (i:=3) (j:=7) (Ni:=some 16) (Nj:=some 7) (ba 11 319) (ba 11 439) rfl rfl rfl rfl (Bx ay.out (by kernel_rfl)) (by decide) (by decide) (fun K hK=>?_) (fun K hK=>?_)
            ·skip
             refine mY Try.func183 (by kernel_rfl) rfl #[.agg #[.int .i64 af,.slice aq aa.length ak],.slice A1 l1.length c1,.int .i64 a2] (by rfl) rfl rfl gm ?_
             with_reducible refine (ct.calls k af _ _ aa _ _ l1 a2 t102 _ ?aT ?aU ?cy ?cI A4.out).mono ?_
             (case aT=>exact aC (Kd.bK bZ.out HB.out))
             (case aU=>exact cD.out)
             (case cy=>exact aC (Kd.bK eP.out HB.out))
             (case cI=>exact kT.out)
             rintro e gw ⟨dn,rfl,aM,hb⟩
             refine ⟨_,rfl,?_⟩
             have aE:=k0 (Kd.dI aM (alk bl))
             have aH:=k0 (alm (g:=ai) (o:=sO af aq aa ak 31) bk hb)
             have aK:=k0 (alm (g:=bp) (o:=.cells #[.slice none 0 0] 28 (0,0)) bk hb)
             have a_:=k0 (aI bl hb)
             clear ag
             clear dr
             clear HB
             have bq:=aE
             have ag:=aH
             have dr:=aK
             have HB:=a_
             clear aE aH aK a_
             (try clear hb);(try clear aM)
             refine hK.out _ _ ⟨(av ag.out 0).trans rfl,(av ag.out 1).trans rfl⟩ (fun hHeld=>?_)
             clear hK K
             refine cQ (a':=?_) ?_ ?_
             rotate_left;· show Act.put _ (some 16) _=_;simp only [Act.put,zI,zZ,zS,cl,cv];rfl
             exact cQ (by first|(simp only [ej,Act.put,zI,zZ,zS];done)|(simp only [ej,Act.put,zI,zZ,zS];rfl)) (P2 (dn,bp) _ ⟨hHeld,(aR bq.out),bk,bk,jM.out,kz.out,alI.out,iP.out,bl⟩)
            ·skip
             refine rM ?hg (N:=7) ?hd (cs:=#[.slice none 0 0]) (t:=28) ?hr ?_;(case hd=>rfl);(case hg=>rfl);(case hr=>first|(go_simp;done)|(go_simp;rfl))
             intro bf hg gw aJ hb
             have aE:=k0 (alm (g:=ai) (o:=sO af aq aa ak 31) bk hb)
             have aH:=k0 (alm (g:=bp) (o:=.cells #[.slice none 0 0] 28 (0,0)) bk hb)
             have aK:=k0 (aI bl hb)
             have a_:=k0 (aJ)
             have alp:=k0 ((by rw [hg];exact (alk bl):w.heap.size≤bf))
             have bw:=k0 ((by rw [hg];exact (alk bl):w.heap.size≤bf))
             have alx:=k0 ((by rw [hg];exact Nat.ne_of_lt (cJ (g:=ai) (o:=sO af aq aa ak 31) bk):ai ≠ bf))
             have cL:=k0 ((by rw [hg];exact Nat.ne_of_gt (cJ (g:=ai) (o:=sO af aq aa ak 31) bk):bf ≠ ai))
             have dL:=k0 ((by rw [hg];exact Nat.ne_of_lt (cJ (g:=bp) (o:=.cells #[.slice none 0 0] 28 (0,0)) bk):bp ≠ bf))
             have eZ:=k0 ((by rw [hg];exact Nat.ne_of_gt (cJ (g:=bp) (o:=.cells #[.slice none 0 0] 28 (0,0)) bk):bf ≠ bp))
             clear ag
             clear dr
             clear HB
             have ag:=aE
             have dr:=aH
             have HB:=aK
             have cm:=a_
             have jL:=alp
             have ku:=bw
             have gu:=alx
             have iE:=cL
             have jN:=dL
             have kD:=eZ
             clear aE aH aK a_ alp bw alx cL dL eZ
             clear hb aJ hg
             refine hK.out _ _ ⟨(av ag.out 0).trans rfl,(av ag.out 1).trans rfl⟩ (fun hHeld=>?_)
             clear hK K
             refine cQ (a':=?_) ?_ ?_
             rotate_left;· show Act.put _ (some 7) _=_;simp only [Act.put,zI,zZ,zS,cl,cv];rfl
             exact cQ (by first|(simp only [ej,Act.put,zI,zZ,zS];done)|(simp only [ej,Act.put,zI,zZ,zS];rfl)) (P3 (bf,bp) _ ⟨hHeld,bk,bk,bk,jL.out,ku.out,gu.out,iE.out,jN.out,kD.out,jM.out,kz.out,alI.out,iP.out,bl⟩)
          ·skip
           rintro bf w9 ⟨lG,alL,fq,gC,iJ,jh,ji,j6⟩
           have aE:au (w9.heap[ai]?=some (sO af aq aa ak 31)):=⟨alL⟩
           have aH:au (w9.heap[bf]?=some (.cells #[.slice none 0 0] 28 (0,0))):=⟨fq⟩
           have aK:au (w.heap.size≤bf):=⟨gC⟩
           have a_:au (w.heap.size≤bf):=⟨iJ⟩
           have alp:au (ai ≠ bf):=⟨jh⟩
           have bw:au (bf ≠ ai):=⟨ji⟩
           have alx:au (Below w.heap.size w w9):=⟨j6⟩
           clear ag
           clear HB
           clear alL fq gC iJ jh ji j6
           have ag:=aE
           have cm:=aH
           have jL:=aK
           have ku:=a_
           have gu:=alp
           have iE:=bw
           have HB:=alx
           clear aE aH aK a_ alp bw alx
           have hHeld:w9.cell? ⟨ai,0,none⟩=some (.int .i64 af)∧w9.cell? ⟨ai,1,none⟩=some (.slice aq aa.length ak):=lG
           refine cQ (a':=?_) ?_ ?_
           rotate_left;· simp only [ej,Act.put,zI,zZ,zS];rfl
           refine Bw (i:=3) (j:=8) (Ni:=some 16) (Nj:=some 8) (ba 11 191) (ba 11 439) rfl rfl rfl rfl (Bx ay.out (by kernel_rfl)) (by decide) (by decide) (fun K hK=>?_) (fun K hK=>?_)
           ·skip
            refine mY Try.func183 (by kernel_rfl) rfl #[.agg #[.int .i64 af,.slice aq aa.length ak],.slice A1 l1.length c1,.int .i64 a2] (by rfl) rfl rfl gm ?_
            with_reducible refine (ct.calls k af _ _ aa _ _ l1 a2 t102 _ ?aT ?aU ?cy ?cI A4.out).mono ?_
            (case aT=>exact aC (Kd.bK bZ.out HB.out))
            (case aU=>exact cD.out)
            (case cy=>exact aC (Kd.bK eP.out HB.out))
            (case cI=>exact kT.out)
            rintro e gw ⟨dn,rfl,aM,hb⟩
            refine ⟨_,rfl,?_⟩
            have aE:=k0 (Kd.dI aM (alk bl))
            have aH:=k0 (alm (g:=ai) (o:=sO af aq aa ak 31) bk hb)
            have aK:=k0 (alm (g:=bf) (o:=.cells #[.slice none 0 0] 28 (0,0)) bk hb)
            have a_:=k0 (aI bl hb)
            clear ag
            clear cm
            clear HB
            have bq:=aE
            have ag:=aH
            have cm:=aK
            have HB:=a_
            clear aE aH aK a_
            (try clear hb);(try clear aM)
            refine hK.out _ _ ⟨(av ag.out 0).trans rfl,(av ag.out 1).trans rfl⟩ (fun hHeld=>?_)
            clear hK K
            refine cQ (a':=?_) ?_ ?_
            rotate_left;· show Act.put _ (some 16) _=_;simp only [Act.put,zI,zZ,zS,cl,cv];rfl
            exact cQ (by first|(simp only [ej,Act.put,zI,zZ,zS];done)|(simp only [ej,Act.put,zI,zZ,zS];rfl)) (P1 (dn,bf) _ ⟨hHeld,(aR bq.out),bk,bk,jL.out,ku.out,gu.out,iE.out,bl⟩)
           ·skip
            refine rM ?hg (N:=8) ?hd (cs:=#[.slice none 0 0]) (t:=28) ?hr ?_;(case hd=>rfl);(case hg=>rfl);(case hr=>first|(go_simp;done)|(go_simp;rfl))
            intro bp hg gw aJ hb
            have aE:=k0 (alm (g:=ai) (o:=sO af aq aa ak 31) bk hb)
            have aH:=k0 (alm (g:=bf) (o:=.cells #[.slice none 0 0] 28 (0,0)) bk hb)
            have aK:=k0 (aI bl hb)
            have a_:=k0 (aJ)
            have alp:=k0 ((by rw [hg];exact (alk bl):w.heap.size≤bp))
            have bw:=k0 ((by rw [hg];exact (alk bl):w.heap.size≤bp))
            have alx:=k0 ((by rw [hg];exact Nat.ne_of_lt (cJ (g:=ai) (o:=sO af aq aa ak 31) bk):ai ≠ bp))
            have cL:=k0 ((by rw [hg];exact Nat.ne_of_gt (cJ (g:=ai) (o:=sO af aq aa ak 31) bk):bp ≠ ai))
            have dL:=k0 ((by rw [hg];exact Nat.ne_of_lt (cJ (g:=bf) (o:=.cells #[.slice none 0 0] 28 (0,0)) bk):bf ≠ bp))
            have eZ:=k0 ((by rw [hg];exact Nat.ne_of_gt (cJ (g:=bf) (o:=.cells #[.slice none 0 0] 28 (0,0)) bk):bp ≠ bf))
            clear ag
            clear cm
            clear HB
            have ag:=aE
            have cm:=aH
            have HB:=aK
            have dr:=a_
            have jM:=alp
            have kz:=bw
            have alI:=alx
            have iP:=cL
            have kD:=dL
            have jN:=eZ
            clear aE aH aK a_ alp bw alx cL dL eZ
            clear hb aJ hg
            refine hK.out _ _ ⟨(av ag.out 0).trans rfl,(av ag.out 1).trans rfl⟩ (fun hHeld=>?_)
            clear hK K
            refine cQ (a':=?_) ?_ ?_
            rotate_left;· show Act.put _ (some 8) _=_;simp only [Act.put,zI,zZ,zS,cl,cv];rfl
            exact cQ (by first|(simp only [ej,Act.put,zI,zZ,zS];done)|(simp only [ej,Act.put,zI,zZ,zS];rfl)) (P3 (bf,bp) _ ⟨hHeld,bk,bk,bk,jL.out,ku.out,gu.out,iE.out,jN.out,kD.out,jM.out,kz.out,alI.out,iP.out,bl⟩)
         ·skip
          rintro dn w9 ⟨lG,alL,fq,gC⟩
          have aE:au (Kd.R (Kd.int .i64) 2 w9 w.heap.size (fun _=>True) dn t102):=⟨alL⟩
          have aH:au (w9.heap[ai]?=some (sO af aq aa ak 31)):=⟨fq⟩
          have aK:au (Below w.heap.size w w9):=⟨gC⟩
          clear ag
          clear HB
          clear alL fq gC
          have bq:=aE
          have ag:=aH
          have HB:=aK
          clear aE aH aK
          have hHeld:w9.cell? ⟨ai,0,none⟩=some (.int .i64 af)∧w9.cell? ⟨ai,1,none⟩=some (.slice aq aa.length ak):=lG
          refine cQ (a':=?_) ?_ ?_
          rotate_left;· simp only [ej,Act.put,zI,zZ,zS];rfl
          refine Tj (i:=6) (j:=7) (k:=8) (Ni:=some 19) (Nj:=some 7) (Nk:=some 8) (ba 11 127) (ba 11 191) (ba 11 319) rfl rfl rfl rfl rfl rfl (Tk ay.out (by kernel_rfl)) (by decide) (by decide) (by decide) (fun K hK=>?_) (fun K hK=>?_) (fun K hK=>?_)
          ·skip
           refine mY Try.func184 (by kernel_rfl) rfl #[.agg #[.int .i64 af,.slice aq aa.length ak],.int .i64 a2] (by rfl) rfl rfl gm ?_
           with_reducible refine (cG.calls k af _ _ aa a2 t105 _ ?aT ?aU A5.out).mono ?_
           (case aT=>exact aC (Kd.bK bZ.out HB.out))
           (case aU=>exact cD.out)
           rintro e gw ⟨fY,rfl,aM,hb⟩
           refine ⟨_,rfl,?_⟩
           have cO:=k0 (Kd.dI (Kd.ep aM (Kd.cH (aR bq.out))) (alk bl));replace bq:=k0 (Kd.alB (aR bq.out) (Kd.cn aM) hb);replace ag:=k0 (alm (g:=ai) (o:=sO af aq aa ak 31) bk hb);replace HB:=k0 (aI bl hb)
           (try clear hb);(try clear aM)
           refine hK.out _ _ ⟨(av ag.out 0).trans rfl,(av ag.out 1).trans rfl⟩ (fun hHeld=>?_)
           clear hK K
           refine cQ (a':=?_) ?_ ?_
           rotate_left;· show Act.put _ (some 19) _=_;simp only [Act.put,zI,zZ,zS,cl,cv];rfl
           exact cQ (by first|(simp only [ej,Act.put,zI,zZ,zS];done)|(simp only [ej,Act.put,zI,zZ,zS];rfl)) (ZR (dn,fY) _ ⟨hHeld,(by (with_reducible repeat (first|apply Kd.bH|apply Kd.bL|apply Kd.bn));exact Kd.alq bq.out (fun _ hk=>hk.2)),(by (with_reducible repeat (first|apply Kd.bH|apply Kd.bL|apply Kd.bn));exact Kd.alq cO.out (fun _ hk=>hk.2)),bk,bl⟩)
          ·skip
           refine rM ?hg (N:=7) ?hd (cs:=#[.slice none 0 0]) (t:=28) ?hr ?_;(case hd=>rfl);(case hg=>rfl);(case hr=>first|(go_simp;done)|(go_simp;rfl))
           intro bf hg gw aJ hb
           replace bq:=k0 (Kd.en (aR bq.out) hb);have cm:=k0 (aJ);have jL:=k0 ((by rw [hg];exact (alk bl):w.heap.size≤bf));have ku:=jL;replace HB:=k0 (aI bl hb);have gu:=k0 ((by rw [hg];exact Nat.ne_of_lt (cJ (g:=ai) (o:=sO af aq aa ak 31) bk):ai ≠ bf));have iE:=k0 ((by rw [hg];exact Nat.ne_of_gt (cJ (g:=ai) (o:=sO af aq aa ak 31) bk):bf ≠ ai));replace ag:=k0 (alm (g:=ai) (o:=sO af aq aa ak 31) bk hb)
           clear hb aJ hg
           refine hK.out _ _ ⟨(av ag.out 0).trans rfl,(av ag.out 1).trans rfl⟩ (fun hHeld=>?_)
           clear hK K
           refine cQ (a':=?_) ?_ ?_
           rotate_left;· show Act.put _ (some 7) _=_;simp only [Act.put,zI,zZ,zS,cl,cv];rfl
           exact cQ (by first|(simp only [ej,Act.put,zI,zZ,zS];done)|(simp only [ej,Act.put,zI,zZ,zS];rfl)) (P1 (dn,bf) _ ⟨hHeld,(aR bq.out),bk,bk,jL.out,ku.out,gu.out,iE.out,bl⟩)
          ·skip
           refine rM ?hg (N:=8) ?hd (cs:=#[.slice none 0 0]) (t:=28) ?hr ?_;(case hd=>rfl);(case hg=>rfl);(case hr=>first|(go_simp;done)|(go_simp;rfl))
           intro bp hg gw aJ hb
           replace bq:=k0 (Kd.en (aR bq.out) hb);have dr:=k0 (aJ);have jM:=k0 ((by rw [hg];exact (alk bl):w.heap.size≤bp));have kz:=jM;replace HB:=k0 (aI bl hb);have alI:=k0 ((by rw [hg];exact Nat.ne_of_lt (cJ (g:=ai) (o:=sO af aq aa ak 31) bk):ai ≠ bp));have iP:=k0 ((by rw [hg];exact Nat.ne_of_gt (cJ (g:=ai) (o:=sO af aq aa ak 31) bk):bp ≠ ai));replace ag:=k0 (alm (g:=ai) (o:=sO af aq aa ak 31) bk hb)
           clear hb aJ hg
           refine hK.out _ _ ⟨(av ag.out 0).trans rfl,(av ag.out 1).trans rfl⟩ (fun hHeld=>?_)
           clear hK K
           refine cQ (a':=?_) ?_ ?_
           rotate_left;· show Act.put _ (some 8) _=_;simp only [Act.put,zI,zZ,zS,cl,cv];rfl
           exact cQ (by first|(simp only [ej,Act.put,zI,zZ,zS];done)|(simp only [ej,Act.put,zI,zZ,zS];rfl)) (P2 (dn,bp) _ ⟨hHeld,(aR bq.out),bk,bk,jM.out,kz.out,alI.out,iP.out,bl⟩)
        ·skip
         rintro ⟨bf,bp⟩ gw ⟨lG,alL,fq,gC,iJ,jh,ji,j6,mG,qo,xd,amJ,amK,amL,xb⟩
         have aE:au (gw.heap[ai]?=some (sO af aq aa ak 31)):=⟨alL⟩
         have aH:au (gw.heap[bf]?=some (.cells #[.slice none 0 0] 28 (0,0))):=⟨fq⟩
         have aK:au (gw.heap[bp]?=some (.cells #[.slice none 0 0] 28 (0,0))):=⟨gC⟩
         have a_:au (w.heap.size≤bf):=⟨iJ⟩
         have alp:au (w.heap.size≤bf):=⟨jh⟩
         have bw:au (ai ≠ bf):=⟨ji⟩
         have alx:au (bf ≠ ai):=⟨j6⟩
         have cL:au (bp ≠ bf):=⟨mG⟩
         have dL:au (bf ≠ bp):=⟨qo⟩
         have eZ:au (w.heap.size≤bp):=⟨xd⟩
         have kf:au (w.heap.size≤bp):=⟨amJ⟩
         have oC:au (ai ≠ bp):=⟨amK⟩
         have tK:au (bp ≠ ai):=⟨amL⟩
         have tL:au (Below w.heap.size w gw):=⟨xb⟩
         clear ag
         clear HB
         clear alL fq gC iJ jh ji j6 mG qo xd amJ amK amL xb
         have ag:=aE
         have cm:=aH
         have dr:=aK
         have jL:=a_
         have ku:=alp
         have gu:=bw
         have iE:=alx
         have jN:=cL
         have kD:=dL
         have jM:=eZ
         have kz:=kf
         have alI:=oC
         have iP:=tK
         have HB:=tL
         clear aE aH aK a_ alp bw alx cL dL eZ kf oC tK tL
         have hHeld:gw.cell? ⟨ai,0,none⟩=some (.int .i64 af)∧gw.cell? ⟨ai,1,none⟩=some (.slice aq aa.length ak):=lG
         refine cQ (a':=?_) ?_ ?_
         rotate_left;· simp only [ej,Act.put,zI,zZ,zS];rfl
         refine nN (i:=3) (N:=some 16) (ba 11 447) rfl rfl (kg ay.out (by kernel_rfl)) (by decide) (fun K hK=>?_)
         refine mY Try.func183 (by kernel_rfl) rfl #[.agg #[.int .i64 af,.slice aq aa.length ak],.slice A1 l1.length c1,.int .i64 a2] (by rfl) rfl rfl gm ?_
         with_reducible refine (ct.calls k af _ _ aa _ _ l1 a2 t102 _ ?aT ?aU ?cy ?cI A4.out).mono ?_
         (case aT=>exact aC (Kd.bK bZ.out HB.out))
         (case aU=>exact cD.out)
         (case cy=>exact aC (Kd.bK eP.out HB.out))
         (case cI=>exact kT.out)
         rintro e alE ⟨dn,rfl,aM,hb⟩
         refine ⟨_,rfl,?_⟩
         have aE:=k0 (Kd.dI aM (alk bl))
         have aH:=k0 (alm (g:=ai) (o:=sO af aq aa ak 31) bk hb)
         have aK:=k0 (alm (g:=bf) (o:=.cells #[.slice none 0 0] 28 (0,0)) bk hb)
         have a_:=k0 (alm (g:=bp) (o:=.cells #[.slice none 0 0] 28 (0,0)) bk hb)
         have alp:=k0 (aI bl hb)
         clear ag
         clear cm
         clear dr
         clear HB
         have bq:=aE
         have ag:=aH
         have cm:=aK
         have dr:=a_
         have HB:=alp
         clear aE aH aK a_ alp
         (try clear hb);(try clear aM)
         refine hK.out _ _ ⟨(av ag.out 0).trans rfl,(av ag.out 1).trans rfl⟩ (fun hHeld=>?_)
         clear hK K
         refine cQ (a':=?_) ?_ ?_
         rotate_left;· show Act.put _ (some 16) _=_;simp only [Act.put,zI,zZ,zS,cl,cv];rfl
         exact cQ (by first|(simp only [ej,Act.put,zI,zZ,zS];done)|(simp only [ej,Act.put,zI,zZ,zS];rfl)) (J6 (dn,bf,bp) _ ⟨hHeld,(aR bq.out),bk,bk,bk,jL.out,ku.out,gu.out,iE.out,jN.out,kD.out,jM.out,kz.out,alI.out,iP.out,bl⟩)
       ·skip
        rintro ⟨dn,bp⟩ gw ⟨lG,alL,fq,gC,iJ,jh,ji,j6,mG⟩
        have aE:au (Kd.R (Kd.int .i64) 2 gw w.heap.size (fun _=>True) dn t102):=⟨alL⟩
        have aH:au (gw.heap[ai]?=some (sO af aq aa ak 31)):=⟨fq⟩
        have aK:au (gw.heap[bp]?=some (.cells #[.slice none 0 0] 28 (0,0))):=⟨gC⟩
        have a_:au (w.heap.size≤bp):=⟨iJ⟩
        have alp:au (w.heap.size≤bp):=⟨jh⟩
        have bw:au (ai ≠ bp):=⟨ji⟩
        have alx:au (bp ≠ ai):=⟨j6⟩
        have cL:au (Below w.heap.size w gw):=⟨mG⟩
        clear ag
        clear HB
        clear alL fq gC iJ jh ji j6 mG
        have bq:=aE
        have ag:=aH
        have dr:=aK
        have jM:=a_
        have kz:=alp
        have alI:=bw
        have iP:=alx
        have HB:=cL
        clear aE aH aK a_ alp bw alx cL
        have hHeld:gw.cell? ⟨ai,0,none⟩=some (.int .i64 af)∧gw.cell? ⟨ai,1,none⟩=some (.slice aq aa.length ak):=lG
        refine cQ (a':=?_) ?_ ?_
        rotate_left;· simp only [ej,Act.put,zI,zZ,zS];rfl
        refine Bw (i:=6) (j:=7) (Ni:=some 19) (Nj:=some 7) (ba 11 383) (ba 11 447) rfl rfl rfl rfl (Bx ay.out (by kernel_rfl)) (by decide) (by decide) (fun K hK=>?_) (fun K hK=>?_)
        ·skip
         refine mY Try.func184 (by kernel_rfl) rfl #[.agg #[.int .i64 af,.slice aq aa.length ak],.int .i64 a2] (by rfl) rfl rfl gm ?_
         with_reducible refine (cG.calls k af _ _ aa a2 t105 _ ?aT ?aU A5.out).mono ?_
         (case aT=>exact aC (Kd.bK bZ.out HB.out))
         (case aU=>exact cD.out)
         rintro e alE ⟨fY,rfl,aM,hb⟩
         refine ⟨_,rfl,?_⟩
         have aE:=k0 (Kd.alB (aR bq.out) (Kd.cn aM) hb)
         have aH:=k0 (Kd.dI (Kd.ep aM (Kd.cH (aR bq.out))) (alk bl))
         have aK:=k0 (alm (g:=ai) (o:=sO af aq aa ak 31) bk hb)
         have a_:=k0 (alm (g:=bp) (o:=.cells #[.slice none 0 0] 28 (0,0)) bk hb)
         have alp:=k0 (aI bl hb)
         clear bq
         clear ag
         clear dr
         clear HB
         have bq:=aE
         have cO:=aH
         have ag:=aK
         have dr:=a_
         have HB:=alp
         clear aE aH aK a_ alp
         (try clear hb);(try clear aM)
         refine hK.out _ _ ⟨(av ag.out 0).trans rfl,(av ag.out 1).trans rfl⟩ (fun hHeld=>?_)
         clear hK K
         refine cQ (a':=?_) ?_ ?_
         rotate_left;· show Act.put _ (some 19) _=_;simp only [Act.put,zI,zZ,zS,cl,cv];rfl
         exact cQ (by first|(simp only [ej,Act.put,zI,zZ,zS];done)|(simp only [ej,Act.put,zI,zZ,zS];rfl)) (P0 (dn,fY,bp) _ ⟨hHeld,(by (with_reducible repeat (first|apply Kd.bH|apply Kd.bL|apply Kd.bn));exact Kd.alq bq.out (fun _ hk=>hk.2)),(by (with_reducible repeat (first|apply Kd.bH|apply Kd.bL|apply Kd.bn));exact Kd.alq cO.out (fun _ hk=>hk.2)),bk,bk,jM.out,kz.out,alI.out,iP.out,bl⟩)
        ·skip
         refine rM ?hg (N:=7) ?hd (cs:=#[.slice none 0 0]) (t:=28) ?hr ?_;(case hd=>rfl);(case hg=>rfl);(case hr=>first|(go_simp;done)|(go_simp;rfl))
         intro bf hg alE aJ hb
         have aE:=k0 (Kd.en (aR bq.out) hb)
         have aH:=k0 (alm (g:=ai) (o:=sO af aq aa ak 31) bk hb)
         have aK:=k0 (alm (g:=bp) (o:=.cells #[.slice none 0 0] 28 (0,0)) bk hb)
         have a_:=k0 (aI bl hb)
         have alp:=k0 (aJ)
         have bw:=k0 ((by rw [hg];exact (alk bl):w.heap.size≤bf))
         have alx:=k0 ((by rw [hg];exact (alk bl):w.heap.size≤bf))
         have cL:=k0 ((by rw [hg];exact Nat.ne_of_lt (cJ (g:=ai) (o:=sO af aq aa ak 31) bk):ai ≠ bf))
         have dL:=k0 ((by rw [hg];exact Nat.ne_of_gt (cJ (g:=ai) (o:=sO af aq aa ak 31) bk):bf ≠ ai))
         have eZ:=k0 ((by rw [hg];exact Nat.ne_of_lt (cJ (g:=bp) (o:=.cells #[.slice none 0 0] 28 (0,0)) bk):bp ≠ bf))
         have kf:=k0 ((by rw [hg];exact Nat.ne_of_gt (cJ (g:=bp) (o:=.cells #[.slice none 0 0] 28 (0,0)) bk):bf ≠ bp))
         clear bq
         clear ag
         clear dr
         clear HB
         have bq:=aE
         have ag:=aH
         have dr:=aK
         have HB:=a_
         have cm:=alp
         have jL:=bw
         have ku:=alx
         have gu:=cL
         have iE:=dL
         have jN:=eZ
         have kD:=kf
         clear aE aH aK a_ alp bw alx cL dL eZ kf
         clear hb aJ hg
         refine hK.out _ _ ⟨(av ag.out 0).trans rfl,(av ag.out 1).trans rfl⟩ (fun hHeld=>?_)
         clear hK K
         refine cQ (a':=?_) ?_ ?_
         rotate_left;· show Act.put _ (some 7) _=_;simp only [Act.put,zI,zZ,zS,cl,cv];rfl
         exact cQ (by first|(simp only [ej,Act.put,zI,zZ,zS];done)|(simp only [ej,Act.put,zI,zZ,zS];rfl)) (J6 (dn,bf,bp) _ ⟨hHeld,(aR bq.out),bk,bk,bk,jL.out,ku.out,gu.out,iE.out,jN.out,kD.out,jM.out,kz.out,alI.out,iP.out,bl⟩)
      ·skip
       rintro ⟨dn,bf⟩ gw ⟨lG,alL,fq,gC,iJ,jh,ji,j6,mG⟩
       have aE:au (Kd.R (Kd.int .i64) 2 gw w.heap.size (fun _=>True) dn t102):=⟨alL⟩
       have aH:au (gw.heap[ai]?=some (sO af aq aa ak 31)):=⟨fq⟩
       have aK:au (gw.heap[bf]?=some (.cells #[.slice none 0 0] 28 (0,0))):=⟨gC⟩
       have a_:au (w.heap.size≤bf):=⟨iJ⟩
       have alp:au (w.heap.size≤bf):=⟨jh⟩
       have bw:au (ai ≠ bf):=⟨ji⟩
       have alx:au (bf ≠ ai):=⟨j6⟩
       have cL:au (Below w.heap.size w gw):=⟨mG⟩
       clear ag
       clear HB
       clear alL fq gC iJ jh ji j6 mG
       have bq:=aE
       have ag:=aH
       have cm:=aK
       have jL:=a_
       have ku:=alp
       have gu:=bw
       have iE:=alx
       have HB:=cL
       clear aE aH aK a_ alp bw alx cL
       have hHeld:gw.cell? ⟨ai,0,none⟩=some (.int .i64 af)∧gw.cell? ⟨ai,1,none⟩=some (.slice aq aa.length ak):=lG
       refine cQ (a':=?_) ?_ ?_
       rotate_left;· simp only [ej,Act.put,zI,zZ,zS];rfl
       refine Bw (i:=6) (j:=8) (Ni:=some 19) (Nj:=some 8) (ba 11 255) (ba 11 447) rfl rfl rfl rfl (Bx ay.out (by kernel_rfl)) (by decide) (by decide) (fun K hK=>?_) (fun K hK=>?_)
       ·skip
        refine mY Try.func184 (by kernel_rfl) rfl #[.agg #[.int .i64 af,.slice aq aa.length ak],.int .i64 a2] (by rfl) rfl rfl gm ?_
        with_reducible refine (cG.calls k af _ _ aa a2 t105 _ ?aT ?aU A5.out).mono ?_
        (case aT=>exact aC (Kd.bK bZ.out HB.out))
        (case aU=>exact cD.out)
        rintro e alE ⟨fY,rfl,aM,hb⟩
        refine ⟨_,rfl,?_⟩
        have aE:=k0 (Kd.alB (aR bq.out) (Kd.cn aM) hb)
        have aH:=k0 (Kd.dI (Kd.ep aM (Kd.cH (aR bq.out))) (alk bl))
        have aK:=k0 (alm (g:=ai) (o:=sO af aq aa ak 31) bk hb)
        have a_:=k0 (alm (g:=bf) (o:=.cells #[.slice none 0 0] 28 (0,0)) bk hb)
        have alp:=k0 (aI bl hb)
        clear bq
        clear ag
        clear cm
        clear HB
        have bq:=aE
        have cO:=aH
        have ag:=aK
        have cm:=a_
        have HB:=alp
        clear aE aH aK a_ alp
        (try clear hb);(try clear aM)
        refine hK.out _ _ ⟨(av ag.out 0).trans rfl,(av ag.out 1).trans rfl⟩ (fun hHeld=>?_)
        clear hK K
        refine cQ (a':=?_) ?_ ?_
        rotate_left;· show Act.put _ (some 19) _=_;simp only [Act.put,zI,zZ,zS,cl,cv];rfl
        exact cQ (by first|(simp only [ej,Act.put,zI,zZ,zS];done)|(simp only [ej,Act.put,zI,zZ,zS];rfl)) (PZ (dn,fY,bf) _ ⟨hHeld,(by (with_reducible repeat (first|apply Kd.bH|apply Kd.bL|apply Kd.bn));exact Kd.alq bq.out (fun _ hk=>hk.2)),(by (with_reducible repeat (first|apply Kd.bH|apply Kd.bL|apply Kd.bn));exact Kd.alq cO.out (fun _ hk=>hk.2)),bk,bk,jL.out,ku.out,gu.out,iE.out,bl⟩)
       ·skip
        refine rM ?hg (N:=8) ?hd (cs:=#[.slice none 0 0]) (t:=28) ?hr ?_;(case hd=>rfl);(case hg=>rfl);(case hr=>first|(go_simp;done)|(go_simp;rfl))
        intro bp hg alE aJ hb
        have aE:=k0 (Kd.en (aR bq.out) hb)
        have aH:=k0 (alm (g:=ai) (o:=sO af aq aa ak 31) bk hb)
        have aK:=k0 (alm (g:=bf) (o:=.cells #[.slice none 0 0] 28 (0,0)) bk hb)
        have a_:=k0 (aI bl hb)
        have alp:=k0 (aJ)
        have bw:=k0 ((by rw [hg];exact (alk bl):w.heap.size≤bp))
        have alx:=k0 ((by rw [hg];exact (alk bl):w.heap.size≤bp))
        have cL:=k0 ((by rw [hg];exact Nat.ne_of_lt (cJ (g:=ai) (o:=sO af aq aa ak 31) bk):ai ≠ bp))
        have dL:=k0 ((by rw [hg];exact Nat.ne_of_gt (cJ (g:=ai) (o:=sO af aq aa ak 31) bk):bp ≠ ai))
        have eZ:=k0 ((by rw [hg];exact Nat.ne_of_lt (cJ (g:=bf) (o:=.cells #[.slice none 0 0] 28 (0,0)) bk):bf ≠ bp))
        have kf:=k0 ((by rw [hg];exact Nat.ne_of_gt (cJ (g:=bf) (o:=.cells #[.slice none 0 0] 28 (0,0)) bk):bp ≠ bf))
        clear bq
        clear ag
        clear cm
        clear HB
        have bq:=aE
        have ag:=aH
        have cm:=aK
        have HB:=a_
        have dr:=alp
        have jM:=bw
        have kz:=alx
        have alI:=cL
        have iP:=dL
        have kD:=eZ
        have jN:=kf
        clear aE aH aK a_ alp bw alx cL dL eZ kf
        clear hb aJ hg
        refine hK.out _ _ ⟨(av ag.out 0).trans rfl,(av ag.out 1).trans rfl⟩ (fun hHeld=>?_)
        clear hK K
        refine cQ (a':=?_) ?_ ?_
        rotate_left;· show Act.put _ (some 8) _=_;simp only [Act.put,zI,zZ,zS,cl,cv];rfl
        exact cQ (by first|(simp only [ej,Act.put,zI,zZ,zS];done)|(simp only [ej,Act.put,zI,zZ,zS];rfl)) (J6 (dn,bf,bp) _ ⟨hHeld,(aR bq.out),bk,bk,bk,jL.out,ku.out,gu.out,iE.out,jN.out,kD.out,jM.out,kz.out,alI.out,iP.out,bl⟩)
     ·skip
      rintro ⟨dn,fY⟩ gw ⟨lG,alL,fq,gC,iJ⟩
      have aE:au (Kd.R (Kd.int .i64) 2 gw w.heap.size (fun k_=>some k_ ≠ (fY:Value).ownBlock) dn t102):=⟨alL⟩
      have aH:au (Kd.R (Kd.int .i64) 2 gw w.heap.size (fun k_=>some k_ ≠ (dn:Value).ownBlock) fY t105):=⟨fq⟩
      have aK:au (gw.heap[ai]?=some (sO af aq aa ak 31)):=⟨gC⟩
      have a_:au (Below w.heap.size w gw):=⟨iJ⟩
      clear ag
      clear HB
      clear alL fq gC iJ
      have bq:=aE
      have cO:=aH
      have ag:=aK
      have HB:=a_
      clear aE aH aK a_
      have hHeld:gw.cell? ⟨ai,0,none⟩=some (.int .i64 af)∧gw.cell? ⟨ai,1,none⟩=some (.slice aq aa.length ak):=lG
      refine cQ (a':=?_) ?_ ?_
      rotate_left;· simp only [ej,Act.put,zI,zZ,zS];rfl
      refine Bw (i:=7) (j:=8) (Ni:=some 7) (Nj:=some 8) (ba 11 255) (ba 11 383) rfl rfl rfl rfl (Bx ay.out (by kernel_rfl)) (by decide) (by decide) (fun K hK=>?_) (fun K hK=>?_)
      ·skip
       refine rM ?hg (N:=7) ?hd (cs:=#[.slice none 0 0]) (t:=28) ?hr ?_;(case hd=>rfl);(case hg=>rfl);(case hr=>first|(go_simp;done)|(go_simp;rfl))
       intro bf hg alE aJ hb
       replace bq:=k0 (Kd.en (aR bq.out) hb);replace cO:=k0 (Kd.en (aR cO.out) hb);have cm:=k0 (aJ);have jL:=k0 ((by rw [hg];exact (alk bl):w.heap.size≤bf));have ku:=jL;replace HB:=k0 (aI bl hb);have gu:=k0 ((by rw [hg];exact Nat.ne_of_lt (cJ (g:=ai) (o:=sO af aq aa ak 31) bk):ai ≠ bf));have iE:=k0 ((by rw [hg];exact Nat.ne_of_gt (cJ (g:=ai) (o:=sO af aq aa ak 31) bk):bf ≠ ai));replace ag:=k0 (alm (g:=ai) (o:=sO af aq aa ak 31) bk hb)
       clear hb aJ hg
       refine hK.out _ _ ⟨(av ag.out 0).trans rfl,(av ag.out 1).trans rfl⟩ (fun hHeld=>?_)
       clear hK K
       refine cQ (a':=?_) ?_ ?_
       rotate_left;· show Act.put _ (some 7) _=_;simp only [Act.put,zI,zZ,zS,cl,cv];rfl
       exact cQ (by first|(simp only [ej,Act.put,zI,zZ,zS];done)|(simp only [ej,Act.put,zI,zZ,zS];rfl)) (PZ (dn,fY,bf) _ ⟨hHeld,(aR bq.out),(aR cO.out),bk,bk,jL.out,ku.out,gu.out,iE.out,bl⟩)
      ·skip
       refine rM ?hg (N:=8) ?hd (cs:=#[.slice none 0 0]) (t:=28) ?hr ?_;(case hd=>rfl);(case hg=>rfl);(case hr=>first|(go_simp;done)|(go_simp;rfl))
       intro bp hg alE aJ hb
       replace bq:=k0 (Kd.en (aR bq.out) hb);replace cO:=k0 (Kd.en (aR cO.out) hb);have dr:=k0 (aJ);have jM:=k0 ((by rw [hg];exact (alk bl):w.heap.size≤bp));have kz:=jM;replace HB:=k0 (aI bl hb);have alI:=k0 ((by rw [hg];exact Nat.ne_of_lt (cJ (g:=ai) (o:=sO af aq aa ak 31) bk):ai ≠ bp));have iP:=k0 ((by rw [hg];exact Nat.ne_of_gt (cJ (g:=ai) (o:=sO af aq aa ak 31) bk):bp ≠ ai));replace ag:=k0 (alm (g:=ai) (o:=sO af aq aa ak 31) bk hb)
       clear hb aJ hg
       refine hK.out _ _ ⟨(av ag.out 0).trans rfl,(av ag.out 1).trans rfl⟩ (fun hHeld=>?_)
       clear hK K
       refine cQ (a':=?_) ?_ ?_
       rotate_left;· show Act.put _ (some 8) _=_;simp only [Act.put,zI,zZ,zS,cl,cv];rfl
       exact cQ (by first|(simp only [ej,Act.put,zI,zZ,zS];done)|(simp only [ej,Act.put,zI,zZ,zS];rfl)) (P0 (dn,fY,bp) _ ⟨hHeld,(aR bq.out),(aR cO.out),bk,bk,jM.out,kz.out,alI.out,iP.out,bl⟩)
    ·skip
     rintro ⟨dn,bf,bp⟩ alE ⟨lG,alL,fq,gC,iJ,jh,ji,j6,mG,qo,xd,amJ,amK,amL,xb,CQ⟩
     have aE:au (Kd.R (Kd.int .i64) 2 alE w.heap.size (fun _=>True) dn t102):=⟨alL⟩
     have aH:au (alE.heap[ai]?=some (sO af aq aa ak 31)):=⟨fq⟩
     have aK:au (alE.heap[bf]?=some (.cells #[.slice none 0 0] 28 (0,0))):=⟨gC⟩
     have a_:au (alE.heap[bp]?=some (.cells #[.slice none 0 0] 28 (0,0))):=⟨iJ⟩
     have alp:au (w.heap.size≤bf):=⟨jh⟩
     have bw:au (w.heap.size≤bf):=⟨ji⟩
     have alx:au (ai ≠ bf):=⟨j6⟩
     have cL:au (bf ≠ ai):=⟨mG⟩
     have dL:au (bp ≠ bf):=⟨qo⟩
     have eZ:au (bf ≠ bp):=⟨xd⟩
     have kf:au (w.heap.size≤bp):=⟨amJ⟩
     have oC:au (w.heap.size≤bp):=⟨amK⟩
     have tK:au (ai ≠ bp):=⟨amL⟩
     have tL:au (bp ≠ ai):=⟨xb⟩
     have Eg:au (Below w.heap.size w alE):=⟨CQ⟩
     clear ag
     clear HB
     clear alL fq gC iJ jh ji j6 mG qo xd amJ amK amL xb CQ
     have bq:=aE
     have ag:=aH
     have cm:=aK
     have dr:=a_
     have jL:=alp
     have ku:=bw
     have gu:=alx
     have iE:=cL
     have jN:=dL
     have kD:=eZ
     have jM:=kf
     have kz:=oC
     have alI:=tK
     have iP:=tL
     have HB:=Eg
     clear aE aH aK a_ alp bw alx cL dL eZ kf oC tK tL Eg
     have hHeld:alE.cell? ⟨ai,0,none⟩=some (.int .i64 af)∧alE.cell? ⟨ai,1,none⟩=some (.slice aq aa.length ak):=lG
     refine cQ (a':=?_) ?_ ?_
     rotate_left;· simp only [ej,Act.put,zI,zZ,zS];rfl
     refine nN (i:=6) (N:=some 19) (ba 11 511) rfl rfl (kg ay.out (by kernel_rfl)) (by decide) (fun K hK=>?_)
     refine mY Try.func184 (by kernel_rfl) rfl #[.agg #[.int .i64 af,.slice aq aa.length ak],.int .i64 a2] (by rfl) rfl rfl gm ?_
     with_reducible refine (cG.calls k af _ _ aa a2 t105 _ ?aT ?aU A5.out).mono ?_
     (case aT=>exact aC (Kd.bK bZ.out HB.out))
     (case aU=>exact cD.out)
     rintro e jt ⟨fY,rfl,aM,hb⟩
     refine ⟨_,rfl,?_⟩
     have aE:=k0 (Kd.alB (aR bq.out) (Kd.cn aM) hb)
     have aH:=k0 (Kd.dI (Kd.ep aM (Kd.cH (aR bq.out))) (alk bl))
     have aK:=k0 (alm (g:=ai) (o:=sO af aq aa ak 31) bk hb)
     have a_:=k0 (alm (g:=bf) (o:=.cells #[.slice none 0 0] 28 (0,0)) bk hb)
     have alp:=k0 (alm (g:=bp) (o:=.cells #[.slice none 0 0] 28 (0,0)) bk hb)
     have bw:=k0 (aI bl hb)
     clear bq
     clear ag
     clear cm
     clear dr
     clear HB
     have bq:=aE
     have cO:=aH
     have ag:=aK
     have cm:=a_
     have dr:=alp
     have HB:=bw
     clear aE aH aK a_ alp bw
     (try clear hb);(try clear aM)
     refine hK.out _ _ ⟨(av ag.out 0).trans rfl,(av ag.out 1).trans rfl⟩ (fun hHeld=>?_)
     clear hK K
     refine cQ (a':=?_) ?_ ?_
     rotate_left;· show Act.put _ (some 19) _=_;simp only [Act.put,zI,zZ,zS,cl,cv];rfl
     exact cQ (by first|(simp only [ej,Act.put,zI,zZ,zS];done)|(simp only [ej,Act.put,zI,zZ,zS];rfl)) (J5 (dn,fY,bf,bp) _ ⟨hHeld,(by (with_reducible repeat (first|apply Kd.bH|apply Kd.bL|apply Kd.bn));exact Kd.alq bq.out (fun _ hk=>hk.2)),(by (with_reducible repeat (first|apply Kd.bH|apply Kd.bL|apply Kd.bn));exact Kd.alq cO.out (fun _ hk=>hk.2)),bk,bk,bk,jL.out,ku.out,gu.out,iE.out,jN.out,kD.out,jM.out,kz.out,alI.out,iP.out,bl⟩)
   ·skip
    rintro ⟨dn,fY,bp⟩ alE ⟨lG,alL,fq,gC,iJ,jh,ji,j6,mG,qo⟩
    have aE:au (Kd.R (Kd.int .i64) 2 alE w.heap.size (fun k_=>some k_ ≠ (fY:Value).ownBlock) dn t102):=⟨alL⟩
    have aH:au (Kd.R (Kd.int .i64) 2 alE w.heap.size (fun k_=>some k_ ≠ (dn:Value).ownBlock) fY t105):=⟨fq⟩
    have aK:au (alE.heap[ai]?=some (sO af aq aa ak 31)):=⟨gC⟩
    have a_:au (alE.heap[bp]?=some (.cells #[.slice none 0 0] 28 (0,0))):=⟨iJ⟩
    have alp:au (w.heap.size≤bp):=⟨jh⟩
    have bw:au (w.heap.size≤bp):=⟨ji⟩
    have alx:au (ai ≠ bp):=⟨j6⟩
    have cL:au (bp ≠ ai):=⟨mG⟩
    have dL:au (Below w.heap.size w alE):=⟨qo⟩
    clear ag
    clear HB
    clear alL fq gC iJ jh ji j6 mG qo
    have bq:=aE
    have cO:=aH
    have ag:=aK
    have dr:=a_
    have jM:=alp
    have kz:=bw
    have alI:=alx
    have iP:=cL
    have HB:=dL
    clear aE aH aK a_ alp bw alx cL dL
    have hHeld:alE.cell? ⟨ai,0,none⟩=some (.int .i64 af)∧alE.cell? ⟨ai,1,none⟩=some (.slice aq aa.length ak):=lG
    refine cQ (a':=?_) ?_ ?_
    rotate_left;· simp only [ej,Act.put,zI,zZ,zS];rfl
    refine nN (i:=7) (N:=some 7) (ba 11 511) rfl rfl (kg ay.out (by kernel_rfl)) (by decide) (fun K hK=>?_)
    refine rM ?hg (N:=7) ?hd (cs:=#[.slice none 0 0]) (t:=28) ?hr ?_;(case hd=>rfl);(case hg=>rfl);(case hr=>first|(go_simp;done)|(go_simp;rfl))
    intro bf hg jt aJ hb
    have aE:=k0 (Kd.en (aR bq.out) hb)
    have aH:=k0 (Kd.en (aR cO.out) hb)
    have aK:=k0 (alm (g:=ai) (o:=sO af aq aa ak 31) bk hb)
    have a_:=k0 (alm (g:=bp) (o:=.cells #[.slice none 0 0] 28 (0,0)) bk hb)
    have alp:=k0 (aI bl hb)
    have bw:=k0 (aJ)
    have alx:=k0 ((by rw [hg];exact (alk bl):w.heap.size≤bf))
    have cL:=k0 ((by rw [hg];exact (alk bl):w.heap.size≤bf))
    have dL:=k0 ((by rw [hg];exact Nat.ne_of_lt (cJ (g:=ai) (o:=sO af aq aa ak 31) bk):ai ≠ bf))
    have eZ:=k0 ((by rw [hg];exact Nat.ne_of_gt (cJ (g:=ai) (o:=sO af aq aa ak 31) bk):bf ≠ ai))
    have kf:=k0 ((by rw [hg];exact Nat.ne_of_lt (cJ (g:=bp) (o:=.cells #[.slice none 0 0] 28 (0,0)) bk):bp ≠ bf))
    have oC:=k0 ((by rw [hg];exact Nat.ne_of_gt (cJ (g:=bp) (o:=.cells #[.slice none 0 0] 28 (0,0)) bk):bf ≠ bp))
    clear bq
    clear cO
    clear ag
    clear dr
    clear HB
    have bq:=aE
    have cO:=aH
    have ag:=aK
    have dr:=a_
    have HB:=alp
    have cm:=bw
    have jL:=alx
    have ku:=cL
    have gu:=dL
    have iE:=eZ
    have jN:=kf
    have kD:=oC
    clear aE aH aK a_ alp bw alx cL dL eZ kf oC
    clear hb aJ hg
    refine hK.out _ _ ⟨(av ag.out 0).trans rfl,(av ag.out 1).trans rfl⟩ (fun hHeld=>?_)
    clear hK K
    refine cQ (a':=?_) ?_ ?_
    rotate_left;· show Act.put _ (some 7) _=_;simp only [Act.put,zI,zZ,zS,cl,cv];rfl
    exact cQ (by first|(simp only [ej,Act.put,zI,zZ,zS];done)|(simp only [ej,Act.put,zI,zZ,zS];rfl)) (J5 (dn,fY,bf,bp) _ ⟨hHeld,(aR bq.out),(aR cO.out),bk,bk,bk,jL.out,ku.out,gu.out,iE.out,jN.out,kD.out,jM.out,kz.out,alI.out,iP.out,bl⟩)
  ·skip
   rintro ⟨dn,fY,bf⟩ alE ⟨lG,alL,fq,gC,iJ,jh,ji,j6,mG,qo⟩
   have aE:au (Kd.R (Kd.int .i64) 2 alE w.heap.size (fun k_=>some k_ ≠ (fY:Value).ownBlock) dn t102):=⟨alL⟩
   have aH:au (Kd.R (Kd.int .i64) 2 alE w.heap.size (fun k_=>some k_ ≠ (dn:Value).ownBlock) fY t105):=⟨fq⟩
   have aK:au (alE.heap[ai]?=some (sO af aq aa ak 31)):=⟨gC⟩
   have a_:au (alE.heap[bf]?=some (.cells #[.slice none 0 0] 28 (0,0))):=⟨iJ⟩
   have alp:au (w.heap.size≤bf):=⟨jh⟩
   have bw:au (w.heap.size≤bf):=⟨ji⟩
   have alx:au (ai ≠ bf):=⟨j6⟩
   have cL:au (bf ≠ ai):=⟨mG⟩
   have dL:au (Below w.heap.size w alE):=⟨qo⟩
   clear ag
   clear HB
   clear alL fq gC iJ jh ji j6 mG qo
   have bq:=aE
   have cO:=aH
   have ag:=aK
   have cm:=a_
   have jL:=alp
   have ku:=bw
   have gu:=alx
   have iE:=cL
   have HB:=dL
   clear aE aH aK a_ alp bw alx cL dL
   have hHeld:alE.cell? ⟨ai,0,none⟩=some (.int .i64 af)∧alE.cell? ⟨ai,1,none⟩=some (.slice aq aa.length ak):=lG
   refine cQ (a':=?_) ?_ ?_
   rotate_left;· simp only [ej,Act.put,zI,zZ,zS];rfl
   refine nN (i:=8) (N:=some 8) (ba 11 511) rfl rfl (kg ay.out (by kernel_rfl)) (by decide) (fun K hK=>?_)
   refine rM ?hg (N:=8) ?hd (cs:=#[.slice none 0 0]) (t:=28) ?hr ?_;(case hd=>rfl);(case hg=>rfl);(case hr=>first|(go_simp;done)|(go_simp;rfl))
   intro bp hg jt aJ hb
   have aE:=k0 (Kd.en (aR bq.out) hb)
   have aH:=k0 (Kd.en (aR cO.out) hb)
   have aK:=k0 (alm (g:=ai) (o:=sO af aq aa ak 31) bk hb)
   have a_:=k0 (alm (g:=bf) (o:=.cells #[.slice none 0 0] 28 (0,0)) bk hb)
   have alp:=k0 (aI bl hb)
   have bw:=k0 (aJ)
   have alx:=k0 ((by rw [hg];exact (alk bl):w.heap.size≤bp))
   have cL:=k0 ((by rw [hg];exact (alk bl):w.heap.size≤bp))
   have dL:=k0 ((by rw [hg];exact Nat.ne_of_lt (cJ (g:=ai) (o:=sO af aq aa ak 31) bk):ai ≠ bp))
   have eZ:=k0 ((by rw [hg];exact Nat.ne_of_gt (cJ (g:=ai) (o:=sO af aq aa ak 31) bk):bp ≠ ai))
   have kf:=k0 ((by rw [hg];exact Nat.ne_of_lt (cJ (g:=bf) (o:=.cells #[.slice none 0 0] 28 (0,0)) bk):bf ≠ bp))
   have oC:=k0 ((by rw [hg];exact Nat.ne_of_gt (cJ (g:=bf) (o:=.cells #[.slice none 0 0] 28 (0,0)) bk):bp ≠ bf))
   clear bq
   clear cO
   clear ag
   clear cm
   clear HB
   have bq:=aE
   have cO:=aH
   have ag:=aK
   have cm:=a_
   have HB:=alp
   have dr:=bw
   have jM:=alx
   have kz:=cL
   have alI:=dL
   have iP:=eZ
   have kD:=kf
   have jN:=oC
   clear aE aH aK a_ alp bw alx cL dL eZ kf oC
   clear hb aJ hg
   refine hK.out _ _ ⟨(av ag.out 0).trans rfl,(av ag.out 1).trans rfl⟩ (fun hHeld=>?_)
   clear hK K
   refine cQ (a':=?_) ?_ ?_
   rotate_left;· show Act.put _ (some 8) _=_;simp only [Act.put,zI,zZ,zS,cl,cv];rfl
   exact cQ (by first|(simp only [ej,Act.put,zI,zZ,zS];done)|(simp only [ej,Act.put,zI,zZ,zS];rfl)) (J5 (dn,fY,bf,bp) _ ⟨hHeld,(aR bq.out),(aR cO.out),bk,bk,bk,jL.out,ku.out,gu.out,iE.out,jN.out,kD.out,jM.out,kz.out,alI.out,iP.out,bl⟩)
 rintro ⟨dn,fY,bf,bp⟩ jt ⟨lG,alL,fq,gC,iJ,jh,ji,j6,mG,qo,xd,amJ,amK,amL,xb,CQ,PS⟩
 have aE:au (Kd.R (Kd.int .i64) 2 jt w.heap.size (fun k_=>some k_ ≠ (fY:Value).ownBlock) dn t102):=⟨alL⟩
 have aH:au (Kd.R (Kd.int .i64) 2 jt w.heap.size (fun k_=>some k_ ≠ (dn:Value).ownBlock) fY t105):=⟨fq⟩
 have aK:au (jt.heap[ai]?=some (sO af aq aa ak 31)):=⟨gC⟩
 have a_:au (jt.heap[bf]?=some (.cells #[.slice none 0 0] 28 (0,0))):=⟨iJ⟩
 have alp:au (jt.heap[bp]?=some (.cells #[.slice none 0 0] 28 (0,0))):=⟨jh⟩
 have bw:au (w.heap.size≤bf):=⟨ji⟩
 have alx:au (w.heap.size≤bf):=⟨j6⟩
 have cL:au (ai ≠ bf):=⟨mG⟩
 have dL:au (bf ≠ ai):=⟨qo⟩
 have eZ:au (bp ≠ bf):=⟨xd⟩
 have kf:au (bf ≠ bp):=⟨amJ⟩
 have oC:au (w.heap.size≤bp):=⟨amK⟩
 have tK:au (w.heap.size≤bp):=⟨amL⟩
 have tL:au (ai ≠ bp):=⟨xb⟩
 have Eg:au (bp ≠ ai):=⟨CQ⟩
 have SG:au (Below w.heap.size w jt):=⟨PS⟩
 clear ag
 clear HB
 clear alL fq gC iJ jh ji j6 mG qo xd amJ amK amL xb CQ PS
 have bq:=aE
 have cO:=aH
 have ag:=aK
 have cm:=a_
 have dr:=alp
 have jL:=bw
 have ku:=alx
 have gu:=cL
 have iE:=dL
 have jN:=eZ
 have kD:=kf
 have jM:=oC
 have kz:=tK
 have alI:=tL
 have iP:=Eg
 have HB:=SG
 clear aE aH aK a_ alp bw alx cL dL eZ kf oC tK tL Eg SG
 have hHeld:jt.cell? ⟨ai,0,none⟩=some (.int .i64 af)∧jt.cell? ⟨ai,1,none⟩=some (.slice aq aa.length ak):=lG
 obtain ⟨sq,sG,AL⟩:=Kd.eF bq.out
 (first|subst AL|(injection AL with alT om jQ;have oo:=alT.symm;have oq:=jQ.symm;clear alT om jQ;subst oo;subst oq))
 obtain ⟨fT,eX,Cy⟩:=Kd.eF cO.out
 (first|subst Cy|(injection Cy with alT om jQ;have oo:=alT.symm;have oq:=jQ.symm;clear alT om jQ;subst oo;subst oq))
 refine cQ (a':=?_) ?_ ?_
 rotate_left;· simp only [ej,Act.put,zI,zZ,zS];rfl
 refine nN (i:=9) (N:=none) (ba 11 1023) rfl rfl (kg ay.out (by kernel_rfl)) (by decide) (fun K hK=>?_)
 have aj7:jt.cell? ⟨bf,0,none⟩=some (.slice none 0 0):=(av cm.out 0).trans rfl
 have ah':=aD cm.out 0
 have aj3:=gu.out
 have aj4:=jN.out
 have aiT:=iE.out
 have aiU:=kD.out
 refine pV (w1:=?_) (by rfl) rfl ?_ ?_
 rotate_left;· go_simp;rfl
 refine hK.out _ _ ⟨((cell_far (p:=⟨bf,_,none⟩) gu.out _).trans (hHeld.1)),((cell_far (p:=⟨bf,_,none⟩) gu.out _).trans (hHeld.2))⟩ (fun hHeld=>?_)
 clear hK K
 refine nN (i:=10) (N:=none) (ba 11 2047) rfl rfl (kg ay.out (by kernel_rfl)) (by decide) (fun K hK=>?_)
 have aj8:jt.cell? ⟨bp,0,none⟩=some (.slice none 0 0):=(av dr.out 0).trans rfl
 have ah_:=aD dr.out 0
 have aj5:=alI.out
 have aj6:=kD.out
 have aiV:=iP.out
 have aiW:=jN.out
 refine pV (w1:=?_) (by rfl) rfl ?_ ?_
 rotate_left;· go_simp;rfl
 refine hK.out _ _ ⟨((cell_far (p:=⟨bp,_,none⟩) alI.out _).trans (hHeld.1)),((cell_far (p:=⟨bp,_,none⟩) alI.out _).trans (hHeld.2))⟩ (fun hHeld=>?_)
 clear hK K
 refine lQ (pN ay.out (by kernel_rfl)) ?_
 have ai2:=gu.out
 have ajz:=iE.out
 have abG:=alI.out
 have abK:=iP.out
 have sS:jt.cell? ⟨ai,0,none⟩=some (.int .i64 af):=(av ag.out 0).trans rfl
 have yP:jt.cell? ⟨ai,1,none⟩=some (.slice aq aa.length ak):=(av ag.out 1).trans rfl
 have amk:=aD ag.out 0
 have yT:=aD ag.out 1
 try go_wp2_with (first|((with_reducible refine cj (N:=9) rfl ?_);refine dK ?hg (N:=9) ?hd (cs:=#[.int .i64 0]) (t:=2) ?hr ?_;(case hd=>rfl);(case hg=>rfl);(case hr=>first|(go_simp;done)|(go_simp;rfl));intro pO hg BA aJ hb;replace bq:=k0 (Kd.en (Kd.Ff (by (with_reducible repeat (first|apply Kd.bH|apply Kd.bL|apply Kd.bn));exact (Kd.alq (Kd.alq (Kd.jC (p:=⟨bp,0,none⟩) (Kd.jC (p:=⟨bf,0,none⟩) (Kd.kX (Kd.kX bq.out cm.out (by decide)) dr.out (by decide)) (fun _ hk=>hk.1.2) (.slice sq t102.length sG)) (fun _ hk=>hk.2) (.slice fT t105.length eX)) (fun _ h_=>h_.1)) (fun _ h_=>h_.1))) pO (Nat.le_of_eq hg.symm)) hb);replace cO:=k0 (Kd.en (Kd.Ff (by (with_reducible repeat (first|apply Kd.bH|apply Kd.bL|apply Kd.bn));exact (Kd.alq (Kd.alq (Kd.jC (p:=⟨bp,0,none⟩) (Kd.jC (p:=⟨bf,0,none⟩) (Kd.kX (Kd.kX cO.out cm.out (by decide)) dr.out (by decide)) (fun _ hk=>hk.1.2) (.slice sq t102.length sG)) (fun _ hk=>hk.2) (.slice fT t105.length eX)) (fun _ h_=>h_.1)) (fun _ h_=>h_.1))) pO (Nat.le_of_eq hg.symm)) hb);have fD:=k0 (aJ);have Nb:=k0 ((by rw [hg];exact (alk bl):w.heap.size≤pO));have HJ:=Nb;replace HB:=k0 (aI bl hb);have vn:=k0 ((by rw [hg];exact Nat.ne_of_lt (cJ (g:=ai) (o:=sO af aq aa ak 31) (by (with_reducible repeat (first|refine eg ?_ _|refine cw ?_|refine dV ?_ _));refine fW ?_ alI.out _;(with_reducible repeat (first|refine eg ?_ _|refine cw ?_|refine dV ?_ _));refine fW ?_ gu.out _;exact bk)):ai ≠ pO));have wL:=k0 ((by rw [hg];exact Nat.ne_of_gt (cJ (g:=ai) (o:=sO af aq aa ak 31) (by (with_reducible repeat (first|refine eg ?_ _|refine cw ?_|refine dV ?_ _));refine fW ?_ alI.out _;(with_reducible repeat (first|refine eg ?_ _|refine cw ?_|refine dV ?_ _));refine fW ?_ gu.out _;exact bk)):pO ≠ ai));replace ag:=k0 (alm (g:=ai) (o:=sO af aq aa ak 31) (by (with_reducible repeat (first|refine eg ?_ _|refine cw ?_|refine dV ?_ _));refine fW ?_ alI.out _;(with_reducible repeat (first|refine eg ?_ _|refine cw ?_|refine dV ?_ _));refine fW ?_ gu.out _;exact bk) hb);have ug:=k0 ((by rw [hg];exact Nat.ne_of_lt (cJ (g:=bf) (o:=.cells #[.slice sq t102.length sG] 28 (0,0)) (by (with_reducible repeat (first|refine eg ?_ _|refine cw ?_|refine dV ?_ _));refine fW ?_ kD.out _;(with_reducible repeat (first|refine eg ?_ _|refine cw ?_|refine dV ?_ _));refine nH (cs:=#[.slice none 0 0]) ?_ 0 _ rfl;exact bk)):bf ≠ pO));have rK:=k0 ((by rw [hg];exact Nat.ne_of_gt (cJ (g:=bf) (o:=.cells #[.slice sq t102.length sG] 28 (0,0)) (by (with_reducible repeat (first|refine eg ?_ _|refine cw ?_|refine dV ?_ _));refine fW ?_ kD.out _;(with_reducible repeat (first|refine eg ?_ _|refine cw ?_|refine dV ?_ _));refine nH (cs:=#[.slice none 0 0]) ?_ 0 _ rfl;exact bk)):pO ≠ bf));replace cm:=k0 (alm (g:=bf) (o:=.cells #[.slice sq t102.length sG] 28 (0,0)) (by (with_reducible repeat (first|refine eg ?_ _|refine cw ?_|refine dV ?_ _));refine fW ?_ kD.out _;(with_reducible repeat (first|refine eg ?_ _|refine cw ?_|refine dV ?_ _));refine nH (cs:=#[.slice none 0 0]) ?_ 0 _ rfl;exact bk) hb);have ye:=k0 ((by rw [hg];exact Nat.ne_of_lt (cJ (g:=bp) (o:=.cells #[.slice fT t105.length eX] 28 (0,0)) (by (with_reducible repeat (first|refine eg ?_ _|refine cw ?_|refine dV ?_ _));refine nH (cs:=#[.slice none 0 0]) ?_ 0 _ rfl;(with_reducible repeat (first|refine eg ?_ _|refine cw ?_|refine dV ?_ _));refine fW ?_ jN.out _;exact bk)):bp ≠ pO));have z7:=k0 ((by rw [hg];exact Nat.ne_of_gt (cJ (g:=bp) (o:=.cells #[.slice fT t105.length eX] 28 (0,0)) (by (with_reducible repeat (first|refine eg ?_ _|refine cw ?_|refine dV ?_ _));refine nH (cs:=#[.slice none 0 0]) ?_ 0 _ rfl;(with_reducible repeat (first|refine eg ?_ _|refine cw ?_|refine dV ?_ _));refine fW ?_ jN.out _;exact bk)):pO ≠ bp));replace dr:=k0 (alm (g:=bp) (o:=.cells #[.slice fT t105.length eX] 28 (0,0)) (by (with_reducible repeat (first|refine eg ?_ _|refine cw ?_|refine dV ?_ _));refine nH (cs:=#[.slice none 0 0]) ?_ 0 _ rfl;(with_reducible repeat (first|refine eg ?_ _|refine cw ?_|refine dV ?_ _));refine fW ?_ jN.out _;exact bk) hb);clear hb aJ hg;have ai3:=wL.out;have ajA:=vn.out;have ai4:=rK.out;have ajB:=ug.out;have ai5:=z7.out;have ajC:=ye.out;have FU:BA.cell? ⟨pO,0,none⟩=some (.int .i64 0):=(av fD.out 0).trans rfl;have FX:=aD fD.out 0))
 go_loopg [9] k (fun kq v9 w'=>∃ (cu:List Int) (qH:List Int) (nS:Int) (u109000:Value) (er:Nat),v9=.pointer (some ⟨er,0,none⟩)∧au (w.heap.size≤er)∧au (ai ≠ er)∧au (er ≠ ai)∧au (bf ≠ er)∧au (er ≠ bf)∧au (bp ≠ er)∧au (er ≠ bp)∧au (bV.l0 kq a2 cu af aa qH nS=some r)∧au (kq≤k)∧au (Kd.R (Kd.int .i64) 2 w' w.heap.size (fun k_=>some k_ ≠ (u109000:Value).ownBlock∧k_ ≠ er) (.slice fT t105.length eX) cu)∧au (Kd.R (Kd.int .i64) 2 w' w.heap.size (fun k_=>some k_ ≠ ((.slice fT t105.length eX):Value).ownBlock∧k_ ≠ er) u109000 qH)∧au (w'.heap[ai]?=some (sO af aq aa ak 31))∧au (w'.heap[bf]?=some (.cells #[u109000] 28 (0,0)))∧au (w'.heap[bp]?=some (.cells #[(.slice fT t105.length eX)] 28 (0,0)))∧au (w'.heap[er]?=some (.cells #[.int .i64 nS] 2 (0,0)))∧au (Below w.heap.size w w'))
 case atStart=>exact ⟨(t105),(t102),(af),(.slice sq t102.length sG),pO,rs,⟨HJ.out⟩,vn,wL,ug,rK,ye,z7,H',⟨Nat.le_refl _⟩,⟨aR (Kd.alq (Kd.jC (p:=⟨pO,0,none⟩) (Kd.alq cO.out (fun k_ hk=>(⟨hk,hk.2⟩:_∧k_ ≠ pO))) (fun _ hk=>hk.2) (.int .i64 af)) (fun _ hk=>⟨hk.1.1,hk.1.2⟩))⟩,⟨aR (Kd.alq (Kd.jC (p:=⟨pO,0,none⟩) (Kd.alq bq.out (fun k_ hk=>(⟨hk,hk.2⟩:_∧k_ ≠ pO))) (fun _ hk=>hk.2) (.int .i64 af)) (fun _ hk=>⟨hk.1.1,hk.1.2⟩))⟩,⟨by (with_reducible repeat (first|refine eg ?_ _|refine cw ?_|refine dV ?_ _));refine fW ?_ vn.out _;exact bk⟩,⟨by (with_reducible repeat (first|refine eg ?_ _|refine cw ?_|refine dV ?_ _));refine fW ?_ ug.out _;exact bk⟩,⟨by (with_reducible repeat (first|refine eg ?_ _|refine cw ?_|refine dV ?_ _));refine fW ?_ ye.out _;exact bk⟩,⟨by (with_reducible repeat (first|refine eg ?_ _|refine cw ?_|refine dV ?_ _));refine nH (cs:=#[.int .i64 0]) ?_ 0 _ rfl;exact bk⟩,⟨bl⟩⟩
 case round =>
  clear H'
  (try clear sS);(try clear yP);(try clear FU);(try clear amk);(try clear yT);(try clear FX)
  obtain ⟨cu,qH,nS,u109000,er,rfl,HJ,vn,wL,ug,rK,ye,z7,HA,alj,eS,cR,ag,cm,dr,fD,HB⟩:=hrel
  have Nb:=HJ
  have cF:=(Kd.bx eS.out).1
  rw [cF] at eS
  (try simp only [cF])
  (try simp only [cF] at ag)
  (try simp only [cF] at cm)
  (try simp only [cF] at dr)
  (try simp only [cF] at fD)
  (try simp only [cF] at cR)
  cases gk with
  | zero=>exact absurd HA.out (by simp [bV.l0])
  | succ k1 =>
   have H:=HA.out
   clear HA
   simp only [bV.l0] at H
   by_cases c25:nS > 0
   case neg =>
    rw [if_neg c25] at H
    have sF:decide (0 < nS)=false:=decide_eq_false c25
    clear c25
    replace H:=Option.bind_eq_some_iff.mp H
    obtain ⟨t123,MR,H⟩:=H
    replace H:(bV.l3 k1 a2 t123 af aa qH)=some r:=H
    have T':=k0 MR
    clear MR
    have H':=k0 H
    clear H
    have ajk:=wL.out
    have ajT:=vn.out
    have ajl:=rK.out
    have ajU:=ug.out
    have ajm:=z7.out
    have ajV:=ye.out
    have aaZ:wr.cell? ⟨er,0,none⟩=some (.int .i64 nS):=(av fD.out 0).trans rfl
    have abv:=aD fD.out 0
    have ajn:=gu.out
    have ajW:=iE.out
    have ajo:=alI.out
    have ajX:=iP.out
    have aa0:wr.cell? ⟨ai,0,none⟩=some (.int .i64 af):=(av ag.out 0).trans rfl
    have an9:wr.cell? ⟨ai,1,none⟩=some (.slice aq aa.length ak):=(av ag.out 1).trans rfl
    have abw:=aD ag.out 0
    have abx:=aD ag.out 1
    have ajp:=kD.out
    have ajY:=jN.out
    have aa2:wr.cell? ⟨bf,0,none⟩=some (u109000):=(av cm.out 0).trans rfl
    have aby:=aD cm.out 0
    obtain ⟨Hy,Js,Y3⟩:=Kd.eF cR.out
    subst Y3
    go_wp2_with (first|((with_reducible refine dx (f:=187) rfl ?_);refine dy (some 56) rfl rfl Try.func187 (by kernel_rfl) rfl #[.agg #[.int .i64 af,.slice aq aa.length ak],.slice Hy qH.length Js,.int .i64 a2] rfl gm ?_;(with_reducible refine (alv.calls k1 af _ _ aa _ _ qH a2 t123 _ ?aT ?aU ?cy ?cI T'.out).mono ?_);(case aT=>exact aC (Kd.bK bZ.out HB.out));(case aU=>exact cD.out);(case cy=>exact aC ((Kd.bx cR.out).2.2));(case cI=>exact (Kd.bx cR.out).2.1);rintro e w89 ⟨v124,rfl,Dm,aM,hb⟩;refine ⟨_,rfl,?_⟩;have H8:=k0 Dm;clear Dm;have aE:=k0 (Kd.alB (aR eS.out) (Kd.cn aM) hb);have aH:=k0 (Kd.alB (aR cR.out) (Kd.cn aM) hb);have aK:=k0 (Kd.dI (Kd.yh (Kd.ep (Kd.ep aM (Kd.cH (aR eS.out))) (Kd.cH (aR cR.out))) (g:=er) (o:=.cells #[.int .i64 nS] 2 (0,0)) bk) (alk bl));have a_:=k0 (alm (g:=ai) (o:=sO af aq aa ak 31) bk hb);have alp:=k0 (alm (g:=bf) (o:=.cells #[.slice Hy qH.length Js] 28 (0,0)) bk hb);have bw:=k0 (alm (g:=bp) (o:=.cells #[.slice fT cu.length eX] 28 (0,0)) bk hb);have alx:=k0 (alm (g:=er) (o:=.cells #[.int .i64 nS] 2 (0,0)) bk hb);have cL:=k0 (aI bl hb);clear eS;clear cR;clear ag;clear cm;clear dr;clear fD;clear HB;have eS:=aE;have cR:=aH;have jA:=aK;have ag:=a_;have cm:=alp;have dr:=bw;have fD:=alx;have HB:=cL;clear aE aH aK a_ alp bw alx cL;(try clear hb);(try clear aM)))
    go_loopg [12] k1 (fun kq v12 w'=>∃ (lV:List Int) (uS:List Int) (u109000:Value),au (lV=[]→v12=.slice none 0 0)∧au (bV.l3 kq a2 lV af aa uS=some r)∧au (kq≤k1)∧au (Kd.R (Kd.int .i64) 2 w' w.heap.size (fun k_=>some k_ ≠ (u109000:Value).ownBlock∧some k_ ≠ ((.slice fT cu.length eX):Value).ownBlock∧k_ ≠ er) v12 lV)∧au (Kd.R (Kd.int .i64) 2 w' w.heap.size (fun k_=>some k_ ≠ (v12:Value).ownBlock∧some k_ ≠ ((.slice fT cu.length eX):Value).ownBlock∧k_ ≠ er) u109000 uS)∧au (Kd.R (Kd.int .i64) 2 w' w.heap.size (fun k_=>some k_ ≠ (v12:Value).ownBlock∧some k_ ≠ (u109000:Value).ownBlock∧k_ ≠ er) (.slice fT cu.length eX) cu)∧au (w'.heap[ai]?=some (sO af aq aa ak 31))∧au (w'.heap[bf]?=some (.cells #[u109000] 28 (0,0)))∧au (w'.heap[bp]?=some (.cells #[(.slice fT cu.length eX)] 28 (0,0)))∧au (w'.heap[er]?=some (.cells #[.int .i64 nS] 2 (0,0)))∧au (Below w.heap.size w w'))
    case atStart=>exact ⟨(t123),(qH),(.slice Hy qH.length Js),H8,H',⟨Nat.le_refl _⟩,⟨by (try simp only [cF]);(with_reducible repeat (first|apply Kd.bH|apply Kd.bL|apply Kd.bn));exact Kd.alq jA.out (fun _ hk=>⟨hk.1.2,⟨hk.1.1.2,hk.2⟩⟩)⟩,⟨by (try simp only [cF]);(with_reducible repeat (first|apply Kd.bH|apply Kd.bL|apply Kd.bn));exact Kd.alq cR.out (fun _ hk=>⟨hk.2,⟨hk.1.1,hk.1.2⟩⟩)⟩,⟨by (try simp only [cF]);(with_reducible repeat (first|apply Kd.bH|apply Kd.bL|apply Kd.bn));exact Kd.alq eS.out (fun _ hk=>⟨hk.2,⟨hk.1.1,hk.1.2⟩⟩)⟩,⟨by (try simp only [cF]);exact bk⟩,⟨by (try simp only [cF]);exact bk⟩,⟨by (try simp only [cF]);exact bk⟩,⟨by (try simp only [cF]);exact bk⟩,⟨bl⟩⟩
    case round =>
     clear H'
     (try clear c25);(try clear sF);(try clear c26);(try clear vA);(try clear Jd);(try clear c27);(try clear rP);(try clear Cm);(try clear c38);(try clear wV);(try clear c39);(try clear AA);(try clear c40);(try clear uu);(try clear c41);(try clear yt);(try clear c42);(try clear wX);(try clear zx);(try clear zz);(try clear c50);(try clear sS);(try clear yP);(try clear FU);(try clear Kr);(try clear Ks);(try clear Kt);(try clear aaQ);(try clear aaR);(try clear aaS);(try clear aaT);(try clear aaU);(try clear aaV);(try clear aaW);(try clear aaX);(try clear aaY);(try clear aaZ);(try clear aa0);(try clear an9);(try clear aa2);(try clear amk);(try clear yT);(try clear FX);(try clear KG);(try clear KH);(try clear KI);(try clear abl);(try clear abm);(try clear abn);(try clear abo);(try clear abp);(try clear abq);(try clear abr);(try clear abt);(try clear abu);(try clear abv);(try clear abw);(try clear abx);(try clear aby);(try clear iU);(try clear RZ);(try clear iy);(try clear zx);(try clear iz);(try clear zz)
     obtain ⟨lV,uS,u109000,Vh,HA,bB,eL,cR,fk,ag,cm,dr,fD,HB⟩:=hrel
     cases gk with
     | zero=>exact absurd HA.out (by simp [bV.l3])
     | succ k2 =>
      have H:=HA.out
      clear HA
      simp only [bV.l3] at H
      by_cases c90:(lV.length:Int)=0
      case neg =>
       rw [if_neg c90] at H
       have Jj:((lV.length:Int) == 0)=false:=beq_eq_false_iff_ne.mpr c90
       (try simp only [cF] at Jj)
       have Jk:((lV.length:Int) != 0)=true:=bne_iff_ne.mpr c90
       (try simp only [cF] at Jk)
       have agI:¬ (lV=[]):=fun h_=>c90 (by rw [h_];rfl)
       replace H:=Option.bind_eq_some_iff.mp H
       obtain ⟨t126,MT,H⟩:=H
       replace H:((alv.f k2 af aa t126 a2).bind fun t129=>(bV.l3 k2 a2 t129 af aa t126))=some r:=H
       have T_:=k0 MT
       clear MT
       replace H:=Option.bind_eq_some_iff.mp H
       obtain ⟨t129,MU,H⟩:=H
       replace H:(bV.l3 k2 a2 t129 af aa t126)=some r:=H
       have Ua:=k0 MU
       clear MU
       have H':=k0 H
       clear H
       obtain ⟨ER,Jt,Y4⟩:=Kd.eF eL.out
       subst Y4
       have aj9:Option.isNone ER=false:=(by obtain ⟨ahl,agK,Y_,_⟩:=Kd.lp eL.out (by omega);injection Y_ with YL _ _;rw [YL];rfl)
       have q_:=SI
       have ajt:=gu.out
       have aj2:=iE.out
       have aiX:=alI.out
       have aju:=iP.out
       have aiY:=vn.out
       have ajv:=wL.out
       have ahD:wr.cell? ⟨ai,0,none⟩=some (.int .i64 af):=(av ag.out 0).trans rfl
       have ahE:wr.cell? ⟨ai,1,none⟩=some (.slice aq aa.length ak):=(av ag.out 1).trans rfl
       have aid:=aD ag.out 0
       have aie:=aD ag.out 1
       have aiZ:=kD.out
       have ajw:=jN.out
       have ai0:=ug.out
       have ajx:=rK.out
       have ahF:wr.cell? ⟨bf,0,none⟩=some (u109000):=(av cm.out 0).trans rfl
       have aif:=aD cm.out 0
       obtain ⟨zO,AE,YN⟩:=Kd.eF cR.out
       subst YN
       go_wp2_with (first|((with_reducible refine dx (f:=186) rfl ?_);refine dy (some 66) rfl rfl Try.func186 (by kernel_rfl) rfl #[.agg #[.int .i64 af,.slice aq aa.length ak],.slice zO uS.length AE,.slice ER lV.length Jt] rfl gm ?_;(with_reducible refine (cC.calls k2 af _ _ aa _ _ uS _ _ lV t126 _ ?aT ?aU ?cy ?cI ?rq ?ru T_.out).mono ?_);(case aT=>exact aC (Kd.bK bZ.out HB.out));(case aU=>exact cD.out);(case cy=>exact aC ((Kd.bx cR.out).2.2));(case cI=>exact (Kd.bx cR.out).2.1);(case rq=>exact aC ((Kd.bx eL.out).2.2));(case ru=>exact (Kd.bx eL.out).2.1);rintro e Mh ⟨v127,rfl,aM,hb⟩;refine ⟨_,rfl,?_⟩;have aE:=k0 (Kd.alB (aR eL.out) (Kd.cn aM) hb);have aH:=k0 (Kd.alB (aR cR.out) (Kd.cn aM) hb);have aK:=k0 (Kd.alB (aR fk.out) (Kd.cn aM) hb);have a_:=k0 (Kd.dI (Kd.yh (Kd.ep (Kd.ep (Kd.ep aM (Kd.cH (aR eL.out))) (Kd.cH (aR cR.out))) (Kd.cH (aR fk.out))) (g:=er) (o:=.cells #[.int .i64 nS] 2 (0,0)) bk) (alk bl));have alp:=k0 (alm (g:=ai) (o:=sO af aq aa ak 31) bk hb);have bw:=k0 (alm (g:=bf) (o:=.cells #[.slice zO uS.length AE] 28 (0,0)) bk hb);have alx:=k0 (alm (g:=bp) (o:=.cells #[.slice fT cu.length eX] 28 (0,0)) bk hb);have cL:=k0 (alm (g:=er) (o:=.cells #[.int .i64 nS] 2 (0,0)) bk hb);have dL:=k0 (aI bl hb);clear eL;clear cR;clear fk;clear ag;clear cm;clear dr;clear fD;clear HB;have eL:=aE;have cR:=aH;have fk:=aK;have uf:=a_;have ag:=alp;have cm:=bw;have dr:=alx;have fD:=cL;have HB:=dL;clear aE aH aK a_ alp bw alx cL dL;(try clear hb);(try clear aM);obtain ⟨qK,pL,YO⟩:=Kd.eF uf.out;subst YO;have ahG:Mh.cell? ⟨bf,0,none⟩=some (.slice zO uS.length AE):=(av cm.out 0).trans rfl;have aih:=aD cm.out 0;have ahH:Mh.cell? ⟨ai,0,none⟩=some (.int .i64 af):=(av ag.out 0).trans rfl;have ahI:Mh.cell? ⟨ai,1,none⟩=some (.slice aq aa.length ak):=(av ag.out 1).trans rfl;have aii:=aD ag.out 0;have aij:=aD ag.out 1)|((with_reducible refine dx (f:=187) rfl ?_);refine dy (some 62) rfl rfl Try.func187 (by kernel_rfl) rfl #[.agg #[.int .i64 af,.slice aq aa.length ak],.slice qK t126.length pL,.int .i64 a2] rfl gm ?_;(with_reducible refine (alv.calls k2 af _ _ aa _ _ t126 a2 t129 _ ?aT ?aU ?cy ?cI Ua.out).mono ?_);(case aT=>exact Kd.bK bZ.out bl);(case aU=>exact cD.out);(case cy=>first|(refine (Kd.bx (e:=2) (base:=w.heap.size) (ok:=fun k_=>((((True∧some k_ ≠ (.slice ER lV.length Jt:Value).ownBlock)∧some k_ ≠ (.slice zO uS.length AE:Value).ownBlock)∧some k_ ≠ (.slice fT cu.length eX:Value).ownBlock)∧k_ ≠ er)) (n:=t126.length) (c:=pL) ?_).2.2;exact (by (with_reducible repeat (first|apply Kd.bH|apply Kd.bL|apply Kd.bn));exact (Kd.alq (Kd.jC (p:=⟨bf,0,none⟩) (Kd.kX uf.out cm.out (by decide)) (fun _ hk=>hk.2) (.slice qK t126.length pL)) (fun _ h_=>h_.1))))|(refine (Kd.bx (e:=2) (base:=w.heap.size) (ok:=fun k_=>(((some k_ ≠ (.slice ER lV.length Jt:Value).ownBlock∧some k_ ≠ (.slice zO uS.length AE:Value).ownBlock)∧some k_ ≠ (.slice fT cu.length eX:Value).ownBlock)∧k_ ≠ er)) (n:=t126.length) (c:=pL) ?_).2.2;exact (by (with_reducible repeat (first|apply Kd.bH|apply Kd.bL|apply Kd.bn));exact (Kd.alq (Kd.jC (p:=⟨bf,0,none⟩) (Kd.kX uf.out cm.out (by decide)) (fun _ hk=>hk.2) (.slice qK t126.length pL)) (fun _ h_=>h_.1)))));(case cI=>exact (Kd.bx uf.out).2.1);rintro e ala ⟨v130,rfl,Dm,aM,hb⟩;refine ⟨_,rfl,?_⟩;have H8:=k0 Dm;clear Dm;have amE:=k0 (Kd.dI (Kd.yh (Kd.ep (Kd.ep (Kd.ep (Kd.ep aM (Kd.cH (by (with_reducible repeat (first|apply Kd.bH|apply Kd.bL|apply Kd.bn));exact (Kd.alq (Kd.jC (p:=⟨bf,0,none⟩) (Kd.kX eL.out cm.out (by decide)) (fun _ hk=>hk.2) (.slice qK t126.length pL)) (fun _ h_=>h_.1))))) (Kd.cH (by (with_reducible repeat (first|apply Kd.bH|apply Kd.bL|apply Kd.bn));exact (Kd.alq (Kd.jC (p:=⟨bf,0,none⟩) (Kd.kX cR.out cm.out (by decide)) (fun _ hk=>hk.2) (.slice qK t126.length pL)) (fun _ h_=>h_.1))))) (Kd.cH (by (with_reducible repeat (first|apply Kd.bH|apply Kd.bL|apply Kd.bn));exact (Kd.alq (Kd.jC (p:=⟨bf,0,none⟩) (Kd.kX fk.out cm.out (by decide)) (fun _ hk=>hk.2) (.slice qK t126.length pL)) (fun _ h_=>h_.1))))) (Kd.cH (by (with_reducible repeat (first|apply Kd.bH|apply Kd.bL|apply Kd.bn));exact (Kd.alq (Kd.jC (p:=⟨bf,0,none⟩) (Kd.kX uf.out cm.out (by decide)) (fun _ hk=>hk.2) (.slice qK t126.length pL)) (fun _ h_=>h_.1))))) (g:=er) (o:=.cells #[.int .i64 nS] 2 (0,0)) (by (with_reducible repeat (first|refine eg ?_ _|refine cw ?_|refine dV ?_ _));refine fW ?_ rK.out _;exact bk)) (alk bl));replace eL:=k0 (Kd.alB (by (with_reducible repeat (first|apply Kd.bH|apply Kd.bL|apply Kd.bn));exact (Kd.alq (Kd.jC (p:=⟨bf,0,none⟩) (Kd.kX eL.out cm.out (by decide)) (fun _ hk=>hk.2) (.slice qK t126.length pL)) (fun _ h_=>h_.1))) (Kd.cn aM) hb);replace cR:=k0 (Kd.alB (by (with_reducible repeat (first|apply Kd.bH|apply Kd.bL|apply Kd.bn));exact (Kd.alq (Kd.jC (p:=⟨bf,0,none⟩) (Kd.kX cR.out cm.out (by decide)) (fun _ hk=>hk.2) (.slice qK t126.length pL)) (fun _ h_=>h_.1))) (Kd.cn aM) hb);replace fk:=k0 (Kd.alB (by (with_reducible repeat (first|apply Kd.bH|apply Kd.bL|apply Kd.bn));exact (Kd.alq (Kd.jC (p:=⟨bf,0,none⟩) (Kd.kX fk.out cm.out (by decide)) (fun _ hk=>hk.2) (.slice qK t126.length pL)) (fun _ h_=>h_.1))) (Kd.cn aM) hb);replace uf:=k0 (Kd.alB (by (with_reducible repeat (first|apply Kd.bH|apply Kd.bL|apply Kd.bn));exact (Kd.alq (Kd.jC (p:=⟨bf,0,none⟩) (Kd.kX uf.out cm.out (by decide)) (fun _ hk=>hk.2) (.slice qK t126.length pL)) (fun _ h_=>h_.1))) (Kd.cn aM) hb);replace ag:=k0 (alm (g:=ai) (o:=sO af aq aa ak 31) (by (with_reducible repeat (first|refine eg ?_ _|refine cw ?_|refine dV ?_ _));refine fW ?_ gu.out _;exact bk) hb);replace cm:=k0 (alm (g:=bf) (o:=.cells #[.slice qK t126.length pL] 28 (0,0)) (by (with_reducible repeat (first|refine eg ?_ _|refine cw ?_|refine dV ?_ _));refine nH (cs:=#[.slice zO uS.length AE]) ?_ 0 _ rfl;exact bk) hb);replace dr:=k0 (alm (g:=bp) (o:=.cells #[.slice fT cu.length eX] 28 (0,0)) (by (with_reducible repeat (first|refine eg ?_ _|refine cw ?_|refine dV ?_ _));refine fW ?_ jN.out _;exact bk) hb);replace fD:=k0 (alm (g:=er) (o:=.cells #[.int .i64 nS] 2 (0,0)) (by (with_reducible repeat (first|refine eg ?_ _|refine cw ?_|refine dV ?_ _));refine fW ?_ rK.out _;exact bk) hb);replace HB:=k0 (aI bl hb);(try clear hb);(try clear aM)))
       go_roundg k2
       case measure=>have:=alj.out;have:=bB.out;omega
       case rel=>exact ⟨(t129),(t126),(.slice qK t126.length pL),H8,H',⟨by have:=alj.out;have:=bB.out;omega⟩,⟨by (try simp only [cF]);(with_reducible repeat (first|apply Kd.bH|apply Kd.bL|apply Kd.bn));exact Kd.alq amE.out (fun _ hk=>⟨hk.1.2,⟨hk.1.1.2,hk.2⟩⟩)⟩,⟨by (try simp only [cF]);(with_reducible repeat (first|apply Kd.bH|apply Kd.bL|apply Kd.bn));exact Kd.alq uf.out (fun _ hk=>⟨hk.2,⟨hk.1.1.2,hk.1.2⟩⟩)⟩,⟨by (try simp only [cF]);(with_reducible repeat (first|apply Kd.bH|apply Kd.bL|apply Kd.bn));exact Kd.alq fk.out (fun _ hk=>⟨hk.2,⟨hk.1.2,hk.1.1.2.2⟩⟩)⟩,⟨by (try simp only [cF]);exact bk⟩,⟨by (try simp only [cF]);exact bk⟩,⟨by (try simp only [cF]);exact bk⟩,⟨by (try simp only [cF]);exact bk⟩,⟨bl⟩⟩
      rw [if_pos c90] at H
      have Jj:((lV.length:Int) == 0)=true:=beq_iff_eq.mpr c90
      (try simp only [cF] at Jj)
      have Jk:((lV.length:Int) != 0)=false:=bne_eq_false_iff_eq.mpr c90
      (try simp only [cF] at Jk)
      have ab2:=Vh.out (List.eq_nil_of_length_eq_zero (by omega))
      subst ab2
      clear c90
      obtain rfl:=Option.some.inj H
      have q_:=SI
      have ajq:=iE.out
      have ajZ:=gu.out
      have ajr:=kD.out
      have aj0:=jN.out
      have ajs:=ug.out
      have aj1:=rK.out
      have ahX:wr.cell? ⟨bf,0,none⟩=some (u109000):=(av cm.out 0).trans rfl
      have aiy:=aD cm.out 0
      go_wp2
      go_ret
      exact ⟨_,by first|rfl|(simp [bz,bA]<;>rfl)|(simp [*,bz,bA]<;>rfl),by (with_reducible repeat (first|apply Kd.bH|apply Kd.bL|apply Kd.bn));exact Kd.alq cR.out (fun _ hk=>trivial),bl⟩
   rw [if_pos c25] at H
   have sF:=decide_eq_true c25
   clear c25
   replace H:=iS H;obtain ⟨c26,H⟩:=H
   have vA:=eq_true c26
   have Jd:=decide_eq_true c26
   clear c26
   replace H:=iS H;obtain ⟨c27,H⟩:=H
   have rP:=eq_true c27
   have Cm:=decide_eq_true c27
   clear c27
   obtain ⟨qJ,DU⟩:∃ y_:List Int,y_=(List.replicate (af:Int).toNat 0):=⟨_,rfl⟩
   replace H:(bV.l1 k1 a2 qJ cu (qJ.length:Int) 0 af aa qH cu nS)=some r:=by first|(rw [DU];with_reducible exact H)|(have ax:=(Option.bind_some _ _).symm.trans H;rw [DU];with_reducible exact ax)|(have ax:=(Option.bind_some _ _).symm.trans H;with_reducible exact ax)|with_reducible exact H|(rw [DU];exact H)|exact H
   have N0:=k0 DU
   clear DU
   have H':=k0 H
   clear H
   have ai6:=wL.out
   have ajD:=vn.out
   have abH:=rK.out
   have abL:=ug.out
   have ai7:=z7.out
   have ajE:=ye.out
   have Kr:wr.cell? ⟨er,0,none⟩=some (.int .i64 nS):=(av fD.out 0).trans rfl
   have KG:=aD fD.out 0
   have ai8:=gu.out
   have ajF:=iE.out
   have ai9:=alI.out
   have ajG:=iP.out
   have Ks:wr.cell? ⟨ai,0,none⟩=some (.int .i64 af):=(av ag.out 0).trans rfl
   have Kt:wr.cell? ⟨ai,1,none⟩=some (.slice aq aa.length ak):=(av ag.out 1).trans rfl
   have KH:=aD ag.out 0
   have KI:=aD ag.out 1
   go_wp2_with (first|((with_reducible refine cj (N:=28) rfl ?_);refine Kd.yg (Kd.int .i64) _ 2 rfl (N:=28) rfl 28 _ _ rfl af rfl rfl Try.underlying28 (.int .i64 0) 8 alU rfl (by decide) (by omega) 0 (ok:=fun _=>True) (b9:=fun _=>True) rfl (fun _ hk=>hk) trivial oD (Nat.le_trans (Nat.mul_le_mul_right _ (oD:af.toNat≤35184372088832)) (by omega)) (Below.refl _ _) (Nat.le_refl _) ?_;intro aky tV qA hb dF dG;clear dF dG;(first|rw [← N0.out] at qA|(simp only [Int.reduceToNat] at qA;rw [← N0.out] at qA));have aE:=k0 (Kd.alB (aR eS.out) (Kd.cn qA) hb);have aH:=k0 (Kd.alB (aR cR.out) (Kd.cn qA) hb);have aK:=k0 (Kd.dI (Kd.yh (Kd.ep (Kd.ep qA (Kd.cH (aR eS.out))) (Kd.cH (aR cR.out))) (g:=er) (o:=.cells #[.int .i64 nS] 2 (0,0)) bk) (alk bl));have a_:=k0 (alm (g:=ai) (o:=sO af aq aa ak 31) bk hb);have alp:=k0 (alm (g:=bf) (o:=.cells #[u109000] 28 (0,0)) bk hb);have bw:=k0 (alm (g:=bp) (o:=.cells #[.slice fT cu.length eX] 28 (0,0)) bk hb);have alx:=k0 (alm (g:=er) (o:=.cells #[.int .i64 nS] 2 (0,0)) bk hb);have cL:=k0 (aI bl hb);clear eS;clear cR;clear ag;clear cm;clear dr;clear fD;clear HB;have eS:=aE;have cR:=aH;have Nz:=aK;have ag:=a_;have cm:=alp;have dr:=bw;have fD:=alx;have HB:=cL;clear aE aH aK a_ alp bw alx cL;clear hb qA;obtain ⟨uW,oX,YT⟩:=Kd.eF Nz.out;subst YT))
   go_loopg [31] k1 (fun kq v31 w'=>∃ (gV:List Int) (jY:Int) (gG:Int),v31=.int .i64 jY∧au (bV.l1 kq a2 gV cu (qJ.length:Int) jY af aa qH cu gG=some r)∧au (kq≤k1)∧au (Kd.R (Kd.int .i64) 2 w' w.heap.size (fun k_=>some k_ ≠ ((.slice fT cu.length eX):Value).ownBlock∧some k_ ≠ (u109000:Value).ownBlock∧some k_ ≠ ((.slice fT cu.length eX):Value).ownBlock∧k_ ≠ er) (.slice uW qJ.length oX) gV)∧au (Kd.R (Kd.int .i64) 2 w' w.heap.size (fun k_=>some k_ ≠ ((.slice uW qJ.length oX):Value).ownBlock∧some k_ ≠ (u109000:Value).ownBlock∧k_ ≠ er) (.slice fT cu.length eX) cu)∧au (Kd.R (Kd.int .i64) 2 w' w.heap.size (fun k_=>some k_ ≠ ((.slice uW qJ.length oX):Value).ownBlock∧some k_ ≠ ((.slice fT cu.length eX):Value).ownBlock∧some k_ ≠ ((.slice fT cu.length eX):Value).ownBlock∧k_ ≠ er) u109000 qH)∧au (Kd.R (Kd.int .i64) 2 w' w.heap.size (fun k_=>some k_ ≠ ((.slice uW qJ.length oX):Value).ownBlock∧some k_ ≠ (u109000:Value).ownBlock∧k_ ≠ er) (.slice fT cu.length eX) cu)∧au (w'.heap[ai]?=some (sO af aq aa ak 31))∧au (w'.heap[bf]?=some (.cells #[u109000] 28 (0,0)))∧au (w'.heap[bp]?=some (.cells #[(.slice fT cu.length eX)] 28 (0,0)))∧au (w'.heap[er]?=some (.cells #[.int .i64 gG] 2 (0,0)))∧au (Below w.heap.size w w'))
   case atStart=>exact ⟨(qJ),(0),(nS),rs,H',⟨Nat.le_refl _⟩,⟨by (try simp only [cF]);(with_reducible repeat (first|apply Kd.bH|apply Kd.bL|apply Kd.bn));exact Kd.alq Nz.out (fun _ hk=>⟨hk.1.1.2,⟨hk.1.2,⟨hk.1.1.2,hk.2⟩⟩⟩)⟩,⟨by (try simp only [cF]);(with_reducible repeat (first|apply Kd.bH|apply Kd.bL|apply Kd.bn));exact Kd.alq eS.out (fun _ hk=>⟨hk.2,⟨hk.1.1,hk.1.2⟩⟩)⟩,⟨by (try simp only [cF]);(with_reducible repeat (first|apply Kd.bH|apply Kd.bL|apply Kd.bn));exact Kd.alq cR.out (fun _ hk=>⟨hk.2,⟨hk.1.1,⟨hk.1.1,hk.1.2⟩⟩⟩)⟩,⟨by (try simp only [cF]);(with_reducible repeat (first|apply Kd.bH|apply Kd.bL|apply Kd.bn));exact Kd.alq eS.out (fun _ hk=>⟨hk.2,⟨hk.1.1,hk.1.2⟩⟩)⟩,⟨by (try simp only [cF]);exact bk⟩,⟨by (try simp only [cF]);exact bk⟩,⟨by (try simp only [cF]);exact bk⟩,⟨by (try simp only [cF]);exact bk⟩,⟨bl⟩⟩
   case round =>
    clear H'
    (try clear c25);(try clear sF);(try clear c26);(try clear vA);(try clear Jd);(try clear c27);(try clear rP);(try clear Cm);(try clear sS);(try clear yP);(try clear FU);(try clear Kr);(try clear Ks);(try clear Kt);(try clear amk);(try clear yT);(try clear FX);(try clear KG);(try clear KH);(try clear KI)
    obtain ⟨gV,jY,gG,rfl,HA,bB,cE,eS,cR,fk,ag,cm,dr,fD,HB⟩:=hrel
    have eG:=(Kd.bx cE.out).1
    rw [eG] at cE
    (try simp only [eG])
    (try simp only [eG] at ag)
    (try simp only [eG] at cm)
    (try simp only [eG] at dr)
    (try simp only [eG] at fD)
    (try simp only [eG] at eS)
    (try simp only [eG] at cR)
    (try simp only [eG] at fk)
    cases gk with
    | zero=>exact absurd HA.out (by simp [bV.l1])
    | succ k2 =>
     have H:=HA.out
     clear HA
     simp only [bV.l1] at H
     by_cases c38:jY < (qJ.length:Int)
     case neg =>
      rw [if_neg c38] at H
      have wV:decide (jY < (qJ.length:Int))=false:=decide_eq_false c38
      (try simp only [cF,eG] at wV)
      clear c38
      have H':=k0 H
      clear H
      go_wp2
      go_loopg [] k2 (fun kq w'=>∃ (kO:List Int) (u109000:Value),au (bV.l2 kq a2 gV cu af aa kO cu gG=some r)∧au (kq≤k2)∧au (Kd.R (Kd.int .i64) 2 w' w.heap.size (fun k_=>some k_ ≠ ((.slice fT cu.length eX):Value).ownBlock∧some k_ ≠ (u109000:Value).ownBlock∧some k_ ≠ ((.slice fT cu.length eX):Value).ownBlock∧k_ ≠ er) (.slice uW gV.length oX) gV)∧au (Kd.R (Kd.int .i64) 2 w' w.heap.size (fun k_=>some k_ ≠ ((.slice uW gV.length oX):Value).ownBlock∧some k_ ≠ (u109000:Value).ownBlock∧k_ ≠ er) (.slice fT cu.length eX) cu)∧au (Kd.R (Kd.int .i64) 2 w' w.heap.size (fun k_=>some k_ ≠ ((.slice uW gV.length oX):Value).ownBlock∧some k_ ≠ ((.slice fT cu.length eX):Value).ownBlock∧some k_ ≠ ((.slice fT cu.length eX):Value).ownBlock∧k_ ≠ er) u109000 kO)∧au (Kd.R (Kd.int .i64) 2 w' w.heap.size (fun k_=>some k_ ≠ ((.slice uW gV.length oX):Value).ownBlock∧some k_ ≠ (u109000:Value).ownBlock∧k_ ≠ er) (.slice fT cu.length eX) cu)∧au (w'.heap[ai]?=some (sO af aq aa ak 31))∧au (w'.heap[bf]?=some (.cells #[u109000] 28 (0,0)))∧au (w'.heap[bp]?=some (.cells #[(.slice fT cu.length eX)] 28 (0,0)))∧au (w'.heap[er]?=some (.cells #[.int .i64 gG] 2 (0,0)))∧au (Below w.heap.size w w'))
      case atStart=>exact ⟨(qH),(u109000),H',⟨Nat.le_refl _⟩,⟨by (try simp only [cF]);(try simp only [eG]);(with_reducible repeat (first|apply Kd.bH|apply Kd.bL|apply Kd.bn));exact cE.out⟩,⟨by (try simp only [cF]);(try simp only [eG]);(with_reducible repeat (first|apply Kd.bH|apply Kd.bL|apply Kd.bn));exact eS.out⟩,⟨by (try simp only [cF]);(try simp only [eG]);(with_reducible repeat (first|apply Kd.bH|apply Kd.bL|apply Kd.bn));exact cR.out⟩,⟨by (try simp only [cF]);(try simp only [eG]);(with_reducible repeat (first|apply Kd.bH|apply Kd.bL|apply Kd.bn));exact fk.out⟩,⟨by (try simp only [cF]);(try simp only [eG]);exact bk⟩,⟨by (try simp only [cF]);(try simp only [eG]);exact bk⟩,⟨by (try simp only [cF]);(try simp only [eG]);exact bk⟩,⟨by (try simp only [cF]);(try simp only [eG]);exact bk⟩,⟨bl⟩⟩
      case round =>
       clear H'
       (try clear c25);(try clear sF);(try clear c26);(try clear vA);(try clear Jd);(try clear c27);(try clear rP);(try clear Cm);(try clear c38);(try clear wV);(try clear c39);(try clear AA);(try clear c40);(try clear uu);(try clear c41);(try clear yt);(try clear c42);(try clear wX);(try clear zx);(try clear zz);(try clear sS);(try clear yP);(try clear FU);(try clear Kr);(try clear Ks);(try clear Kt);(try clear amk);(try clear yT);(try clear FX);(try clear KG);(try clear KH);(try clear KI);(try clear iU);(try clear RZ);(try clear iy);(try clear zx);(try clear iz);(try clear zz)
       obtain ⟨kO,u109000,HA,cN,cE,eS,cR,fk,ag,cm,dr,fD,HB⟩:=hrel
       cases gk with
       | zero=>exact absurd HA.out (by simp [bV.l2])
       | succ k3 =>
        have H:=HA.out
        clear HA
        simp only [bV.l2] at H
        replace H:=Option.bind_eq_some_iff.mp H
        obtain ⟨t116,ML,H⟩:=H
        replace H:((nX.f k3 t116 cu gG kO).bind fun t119=>(if t119=true then ((cC.f k3 af aa kO gV).bind fun t120=>(bV.l2 k3 a2 gV cu af aa t120 cu gG)) else (bV.l0 k3 a2 cu af aa kO (wrap64 (gG - 1)))))=some r:=H
        have MK:=k0 ML
        clear ML
        replace H:=Option.bind_eq_some_iff.mp H
        obtain ⟨t119,MN,H⟩:=H
        replace H:(if t119=true then ((cC.f k3 af aa kO gV).bind fun t120=>(bV.l2 k3 a2 gV cu af aa t120 cu gG)) else (bV.l0 k3 a2 cu af aa kO (wrap64 (gG - 1))))=some r:=H
        have MM:=k0 MN
        clear MN
        by_cases c50:t119=true
        case neg =>
         replace c50:=Bool.eq_false_iff.mpr c50
         subst c50
         have H1:(bV.l0 k3 a2 cu af aa kO (wrap64 (gG - 1)))=some r:=by rw [if_neg (show ¬ (false=true) by decide)] at H;exact H
         clear H
         have H:=H1
         clear H1
         have H':=k0 H
         clear H
         have aje:=gu.out
         have ajN:=iE.out
         have ajf:=alI.out
         have ajO:=iP.out
         have ajg:=vn.out
         have ajP:=wL.out
         have aaW:wr.cell? ⟨ai,0,none⟩=some (.int .i64 af):=(av ag.out 0).trans rfl
         have aaX:wr.cell? ⟨ai,1,none⟩=some (.slice aq aa.length ak):=(av ag.out 1).trans rfl
         have abr:=aD ag.out 0
         have abt:=aD ag.out 1
         go_wp2_with (first|((with_reducible refine dx (f:=115) rfl ?_);refine dy (some 45) rfl rfl Try.func115 (by kernel_rfl) rfl #[.agg #[.int .i64 af,.slice aq aa.length ak]] rfl gm ?_;(with_reducible refine (alQ.calls k3 af _ _ aa t116 _ ?aT ?aU MK.out).mono ?_);(case aT=>exact aC (Kd.bK bZ.out HB.out));(case aU=>exact cD.out);rintro e w71 ⟨v117,rfl,aM,hb⟩;refine ⟨_,rfl,?_⟩;have aE:=k0 (Kd.alB (aR cE.out) (Kd.cn aM) hb);have aH:=k0 (Kd.alB (aR eS.out) (Kd.cn aM) hb);have aK:=k0 (Kd.alB (aR cR.out) (Kd.cn aM) hb);have a_:=k0 (Kd.alB (aR fk.out) (Kd.cn aM) hb);have alp:=k0 (Kd.dI (Kd.yh (Kd.ep (Kd.ep (Kd.ep (Kd.ep aM (Kd.cH (aR cE.out))) (Kd.cH (aR eS.out))) (Kd.cH (aR cR.out))) (Kd.cH (aR fk.out))) (g:=er) (o:=.cells #[.int .i64 gG] 2 (0,0)) bk) (alk bl));have bw:=k0 (alm (g:=ai) (o:=sO af aq aa ak 31) bk hb);have alx:=k0 (alm (g:=bf) (o:=.cells #[u109000] 28 (0,0)) bk hb);have cL:=k0 (alm (g:=bp) (o:=.cells #[.slice fT cu.length eX] 28 (0,0)) bk hb);have dL:=k0 (alm (g:=er) (o:=.cells #[.int .i64 gG] 2 (0,0)) bk hb);have eZ:=k0 (aI bl hb);clear cE;clear eS;clear cR;clear fk;clear ag;clear cm;clear dr;clear fD;clear HB;have cE:=aE;have eS:=aH;have cR:=aK;have fk:=a_;have nY:=alp;have ag:=bw;have cm:=alx;have dr:=cL;have fD:=dL;have HB:=eZ;clear aE aH aK a_ alp bw alx cL dL eZ;(try clear hb);(try clear aM);obtain ⟨Uj,Yo,Y1⟩:=Kd.eF nY.out;subst Y1;obtain ⟨zR,AI,Y2⟩:=Kd.eF cR.out;subst Y2)|((with_reducible refine dx (f:=98) rfl ?_);refine dy (some 47) rfl rfl Try.func98 (by kernel_rfl) rfl #[.slice Uj t116.length Yo,.func (.func 185) #[] #[.pointer (some ⟨bp,0,none⟩),.pointer (some ⟨er,0,none⟩),.pointer (some ⟨bf,0,none⟩)]] rfl gm ?_;(with_reducible refine (nX.calls k3 _ _ t116 fT eX cu gG zR AI kO false _ ?aT ?aU ?cy ?cI ?rq ?ru ?Eu ?anw ?Ew MM.out).mono ?_);(case aT=>exact aC ((Kd.bx nY.out).2.2));(case aU=>exact (Kd.bx nY.out).2.1);(case cy=>exact aC ((Kd.bx fk.out).2.2));(case cI=>exact (Kd.bx fk.out).2.1);(case rq=>exact aC ((Kd.bx cR.out).2.2));(case ru=>exact (Kd.bx cR.out).2.1);(case Eu=>exact by exact bk);(case anw=>exact by exact bk);(case Ew=>exact by exact bk);rintro e w74 ⟨rfl,hb⟩;refine ⟨_,rfl,?_⟩;have aE:=k0 (Kd.en (aR cE.out) hb);have aH:=k0 (Kd.en (aR eS.out) hb);have aK:=k0 (Kd.en (aR cR.out) hb);have a_:=k0 (Kd.en (aR fk.out) hb);have alp:=k0 (Kd.en (aR nY.out) hb);have bw:=k0 (alm (g:=ai) (o:=sO af aq aa ak 31) bk hb);have alx:=k0 (alm (g:=bf) (o:=.cells #[.slice zR kO.length AI] 28 (0,0)) bk hb);have cL:=k0 (alm (g:=bp) (o:=.cells #[.slice fT cu.length eX] 28 (0,0)) bk hb);have dL:=k0 (alm (g:=er) (o:=.cells #[.int .i64 gG] 2 (0,0)) bk hb);have eZ:=k0 (aI bl hb);clear cE;clear eS;clear cR;clear fk;clear nY;clear ag;clear cm;clear dr;clear fD;clear HB;have cE:=aE;have eS:=aH;have cR:=aK;have fk:=a_;have nY:=alp;have ag:=bw;have cm:=alx;have dr:=cL;have fD:=dL;have HB:=eZ;clear aE aH aK a_ alp bw alx cL dL eZ;(try clear hb);have aji:=rK.out;have ajR:=ug.out;have ajj:=z7.out;have ajS:=ye.out;have aaY:w74.cell? ⟨er,0,none⟩=some (.int .i64 gG):=(av fD.out 0).trans rfl;have abu:=aD fD.out 0)|((with_reducible refine cj (N:=9) rfl ?_);refine dK ?hg (N:=9) ?hd (cs:=#[.int .i64 0]) (t:=2) ?hr ?_;(case hd=>rfl);(case hg=>rfl);(case hr=>first|(go_simp;done)|(go_simp;rfl));intro ou hg wn_ aJ hb;have aE:=k0 (Kd.en (Kd.Ff (aR eS.out) ou (Nat.le_of_eq hg.symm)) hb);have aH:=k0 (Kd.en (Kd.Ff (aR cR.out) ou (Nat.le_of_eq hg.symm)) hb);have aK:=k0 (alm (g:=ai) (o:=sO af aq aa ak 31) bk hb);have a_:=k0 (alm (g:=bf) (o:=.cells #[.slice zR kO.length AI] 28 (0,0)) bk hb);have alp:=k0 (alm (g:=bp) (o:=.cells #[.slice fT cu.length eX] 28 (0,0)) bk hb);have bw:=k0 (aJ);have alx:=k0 ((by rw [hg];exact (alk bl):w.heap.size≤ou));have cL:=k0 ((by rw [hg];exact Nat.ne_of_lt (cJ (g:=ai) (o:=sO af aq aa ak 31) bk):ai ≠ ou));have dL:=k0 ((by rw [hg];exact Nat.ne_of_gt (cJ (g:=ai) (o:=sO af aq aa ak 31) bk):ou ≠ ai));have eZ:=k0 ((by rw [hg];exact Nat.ne_of_lt (cJ (g:=bf) (o:=.cells #[.slice zR kO.length AI] 28 (0,0)) bk):bf ≠ ou));have kf:=k0 ((by rw [hg];exact Nat.ne_of_gt (cJ (g:=bf) (o:=.cells #[.slice zR kO.length AI] 28 (0,0)) bk):ou ≠ bf));have oC:=k0 ((by rw [hg];exact Nat.ne_of_lt (cJ (g:=bp) (o:=.cells #[.slice fT cu.length eX] 28 (0,0)) bk):bp ≠ ou));have tK:=k0 ((by rw [hg];exact Nat.ne_of_gt (cJ (g:=bp) (o:=.cells #[.slice fT cu.length eX] 28 (0,0)) bk):ou ≠ bp));have tL:=k0 (aI bl hb);clear eS;clear cR;clear ag;clear cm;clear dr;clear fD;clear HB;have eS:=aE;have cR:=aH;have ag:=aK;have cm:=a_;have dr:=alp;have fD:=bw;have anW:=alx;have IM:=cL;have VS:=dL;have IQ:=eZ;have VT:=kf;have IU:=oC;have VU:=tK;have HB:=tL;clear aE aH aK a_ alp bw alx cL dL eZ kf oC tK tL;clear hb aJ hg;have ahZ:wn_.cell? ⟨ou,0,none⟩=some (.int .i64 0):=(av fD.out 0).trans rfl;have aiA:=aD fD.out 0))
         (try simp only [← cF,← eG])
         go_roundg k3
         case measure=>have:=alj.out;have:=bB.out;have:=cN.out;omega
         case rel=>exact ⟨(cu),(kO),(wrap64 (gG - 1)),(.slice zR kO.length AI),ou,rs,⟨anW.out⟩,IM,VS,IQ,VT,IU,VU,H',⟨by have:=alj.out;have:=bB.out;have:=cN.out;omega⟩,⟨by (try simp only [cF]);(try simp only [eG]);(with_reducible repeat (first|apply Kd.bH|apply Kd.bL|apply Kd.bn));exact Kd.alq (Kd.jC (p:=⟨ou,0,none⟩) (Kd.jC (p:=⟨ou,0,none⟩) (Kd.alq eS.out (fun k_ hk=>(⟨hk,hk.2⟩:_∧k_ ≠ ou))) (fun _ hk=>hk.2) (.int .i64 gG)) (fun _ hk=>hk.2) (.int .i64 (wrap64 (gG - 1)))) (fun _ hk=>⟨hk.1.1.1.2.1,hk.2⟩)⟩,⟨by (try simp only [cF]);(try simp only [eG]);(with_reducible repeat (first|apply Kd.bH|apply Kd.bL|apply Kd.bn));exact Kd.alq (Kd.jC (p:=⟨ou,0,none⟩) (Kd.jC (p:=⟨ou,0,none⟩) (Kd.alq cR.out (fun k_ hk=>(⟨hk,hk.2⟩:_∧k_ ≠ ou))) (fun _ hk=>hk.2) (.int .i64 gG)) (fun _ hk=>hk.2) (.int .i64 (wrap64 (gG - 1)))) (fun _ hk=>⟨hk.1.1.1.2.1,hk.2⟩)⟩,⟨by (try simp only [cF]);(try simp only [eG]);(with_reducible repeat (first|refine eg ?_ _|refine cw ?_|refine dV ?_ _));refine fW ?_ IM.out _;refine fW ?_ IM.out _;exact bk⟩,⟨by (try simp only [cF]);(try simp only [eG]);(with_reducible repeat (first|refine eg ?_ _|refine cw ?_|refine dV ?_ _));refine fW ?_ IQ.out _;refine fW ?_ IQ.out _;exact bk⟩,⟨by (try simp only [cF]);(try simp only [eG]);(with_reducible repeat (first|refine eg ?_ _|refine cw ?_|refine dV ?_ _));refine fW ?_ IU.out _;refine fW ?_ IU.out _;exact bk⟩,⟨by (try simp only [cF]);(try simp only [eG]);(with_reducible repeat (first|refine eg ?_ _|refine cw ?_|refine dV ?_ _));refine nH (cs:=#[.int .i64 gG]) ?_ 0 _ rfl;refine nH (cs:=#[.int .i64 0]) ?_ 0 _ rfl;exact bk⟩,⟨by repeat (first|(with_reducible first|exact HB.out|apply dh|apply ek|apply cP|refine dJ ?_ eB.out|refine dJ ?_ ku.out|refine dJ ?_ kz.out|refine dJ ?_ anW.out)|exact HB.out)⟩⟩
        subst c50
        have H1:((cC.f k3 af aa kO gV).bind fun t120=>(bV.l2 k3 a2 gV cu af aa t120 cu gG))=some r:=by rw [if_pos rfl] at H;exact H
        clear H
        have H:=H1
        clear H1
        replace H:=Option.bind_eq_some_iff.mp H
        obtain ⟨t120,BO,H⟩:=H
        replace H:(bV.l2 k3 a2 gV cu af aa t120 cu gG)=some r:=H
        have Hs:=k0 BO
        clear BO
        have H':=k0 H
        clear H
        have ai':=gu.out
        have ajH:=iE.out
        have ai_:=alI.out
        have ajI:=iP.out
        have aja:=vn.out
        have ajJ:=wL.out
        have aaQ:wr.cell? ⟨ai,0,none⟩=some (.int .i64 af):=(av ag.out 0).trans rfl
        have aaR:wr.cell? ⟨ai,1,none⟩=some (.slice aq aa.length ak):=(av ag.out 1).trans rfl
        have abl:=aD ag.out 0
        have abm:=aD ag.out 1
        go_wp2_with (first|((with_reducible refine dx (f:=115) rfl ?_);refine dy (some 45) rfl rfl Try.func115 (by kernel_rfl) rfl #[.agg #[.int .i64 af,.slice aq aa.length ak]] rfl gm ?_;(with_reducible refine (alQ.calls k3 af _ _ aa t116 _ ?aT ?aU MK.out).mono ?_);(case aT=>exact aC (Kd.bK bZ.out HB.out));(case aU=>exact cD.out);rintro e TE ⟨v117,rfl,aM,hb⟩;refine ⟨_,rfl,?_⟩;have aE:=k0 (Kd.alB (aR cE.out) (Kd.cn aM) hb);have aH:=k0 (Kd.alB (aR eS.out) (Kd.cn aM) hb);have aK:=k0 (Kd.alB (aR cR.out) (Kd.cn aM) hb);have a_:=k0 (Kd.alB (aR fk.out) (Kd.cn aM) hb);have alp:=k0 (Kd.dI (Kd.yh (Kd.ep (Kd.ep (Kd.ep (Kd.ep aM (Kd.cH (aR cE.out))) (Kd.cH (aR eS.out))) (Kd.cH (aR cR.out))) (Kd.cH (aR fk.out))) (g:=er) (o:=.cells #[.int .i64 gG] 2 (0,0)) bk) (alk bl));have bw:=k0 (alm (g:=ai) (o:=sO af aq aa ak 31) bk hb);have alx:=k0 (alm (g:=bf) (o:=.cells #[u109000] 28 (0,0)) bk hb);have cL:=k0 (alm (g:=bp) (o:=.cells #[.slice fT cu.length eX] 28 (0,0)) bk hb);have dL:=k0 (alm (g:=er) (o:=.cells #[.int .i64 gG] 2 (0,0)) bk hb);have eZ:=k0 (aI bl hb);clear cE;clear eS;clear cR;clear fk;clear ag;clear cm;clear dr;clear fD;clear HB;have cE:=aE;have eS:=aH;have cR:=aK;have fk:=a_;have nY:=alp;have ag:=bw;have cm:=alx;have dr:=cL;have fD:=dL;have HB:=eZ;clear aE aH aK a_ alp bw alx cL dL eZ;(try clear hb);(try clear aM);obtain ⟨Ug,Yl,YY⟩:=Kd.eF nY.out;subst YY;obtain ⟨uX,vE,FG⟩:=Kd.eF cR.out;subst FG)|((with_reducible refine dx (f:=98) rfl ?_);refine dy (some 47) rfl rfl Try.func98 (by kernel_rfl) rfl #[.slice Ug t116.length Yl,.func (.func 185) #[] #[.pointer (some ⟨bp,0,none⟩),.pointer (some ⟨er,0,none⟩),.pointer (some ⟨bf,0,none⟩)]] rfl gm ?_;(with_reducible refine (nX.calls k3 _ _ t116 fT eX cu gG uX vE kO true _ ?aT ?aU ?cy ?cI ?rq ?ru ?Eu ?anw ?Ew MM.out).mono ?_);(case aT=>exact aC ((Kd.bx nY.out).2.2));(case aU=>exact (Kd.bx nY.out).2.1);(case cy=>exact aC ((Kd.bx fk.out).2.2));(case cI=>exact (Kd.bx fk.out).2.1);(case rq=>exact aC ((Kd.bx cR.out).2.2));(case ru=>exact (Kd.bx cR.out).2.1);(case Eu=>exact by exact bk);(case anw=>exact by exact bk);(case Ew=>exact by exact bk);rintro e am1 ⟨rfl,hb⟩;refine ⟨_,rfl,?_⟩;have aE:=k0 (Kd.en (aR cE.out) hb);have aH:=k0 (Kd.en (aR eS.out) hb);have aK:=k0 (Kd.en (aR cR.out) hb);have a_:=k0 (Kd.en (aR fk.out) hb);have alp:=k0 (Kd.en (aR nY.out) hb);have bw:=k0 (alm (g:=ai) (o:=sO af aq aa ak 31) bk hb);have alx:=k0 (alm (g:=bf) (o:=.cells #[.slice uX kO.length vE] 28 (0,0)) bk hb);have cL:=k0 (alm (g:=bp) (o:=.cells #[.slice fT cu.length eX] 28 (0,0)) bk hb);have dL:=k0 (alm (g:=er) (o:=.cells #[.int .i64 gG] 2 (0,0)) bk hb);have eZ:=k0 (aI bl hb);clear cE;clear eS;clear cR;clear fk;clear nY;clear ag;clear cm;clear dr;clear fD;clear HB;have cE:=aE;have eS:=aH;have cR:=aK;have fk:=a_;have nY:=alp;have ag:=bw;have cm:=alx;have dr:=cL;have fD:=dL;have HB:=eZ;clear aE aH aK a_ alp bw alx cL dL eZ;(try clear hb);have aaS:am1.cell? ⟨ai,0,none⟩=some (.int .i64 af):=(av ag.out 0).trans rfl;have aaT:am1.cell? ⟨ai,1,none⟩=some (.slice aq aa.length ak):=(av ag.out 1).trans rfl;have abn:=aD ag.out 0;have abo:=aD ag.out 1;have ajc:=kD.out;have ajL:=jN.out;have ajd:=ug.out;have ajM:=rK.out;have aaU:am1.cell? ⟨bf,0,none⟩=some (.slice uX kO.length vE):=(av cm.out 0).trans rfl;have abp:=aD cm.out 0)|((with_reducible refine dx (f:=186) rfl ?_);refine dy (some 51) rfl rfl Try.func186 (by kernel_rfl) rfl #[.agg #[.int .i64 af,.slice aq aa.length ak],.slice uX kO.length vE,.slice uW gV.length oX] rfl gm ?_;(with_reducible refine (cC.calls k3 af _ _ aa _ _ kO _ _ gV t120 _ ?aT ?aU ?cy ?cI ?rq ?ru Hs.out).mono ?_);(case aT=>exact aC (Kd.bK bZ.out HB.out));(case aU=>exact cD.out);(case cy=>exact aC ((Kd.bx cR.out).2.2));(case cI=>exact (Kd.bx cR.out).2.1);(case rq=>exact aC ((Kd.bx cE.out).2.2));(case ru=>exact (Kd.bx cE.out).2.1);rintro e jv ⟨afd,rfl,aM,hb⟩;refine ⟨_,rfl,?_⟩;have aE:=k0 (Kd.alB (aR cE.out) (Kd.cn aM) hb);have aH:=k0 (Kd.alB (aR eS.out) (Kd.cn aM) hb);have aK:=k0 (Kd.alB (aR cR.out) (Kd.cn aM) hb);have a_:=k0 (Kd.alB (aR fk.out) (Kd.cn aM) hb);have alp:=k0 (Kd.alB (aR nY.out) (Kd.cn aM) hb);have bw:=k0 (Kd.dI (Kd.yh (Kd.ep (Kd.ep (Kd.ep (Kd.ep (Kd.ep aM (Kd.cH (aR cE.out))) (Kd.cH (aR eS.out))) (Kd.cH (aR cR.out))) (Kd.cH (aR fk.out))) (Kd.cH (aR nY.out))) (g:=er) (o:=.cells #[.int .i64 gG] 2 (0,0)) bk) (alk bl));have alx:=k0 (alm (g:=ai) (o:=sO af aq aa ak 31) bk hb);have cL:=k0 (alm (g:=bf) (o:=.cells #[.slice uX kO.length vE] 28 (0,0)) bk hb);have dL:=k0 (alm (g:=bp) (o:=.cells #[.slice fT cu.length eX] 28 (0,0)) bk hb);have eZ:=k0 (alm (g:=er) (o:=.cells #[.int .i64 gG] 2 (0,0)) bk hb);have kf:=k0 (aI bl hb);clear cE;clear eS;clear cR;clear fk;clear nY;clear ag;clear cm;clear dr;clear fD;clear HB;have cE:=aE;have eS:=aH;have cR:=aK;have fk:=a_;have nY:=alp;have E6:=bw;have ag:=alx;have cm:=cL;have dr:=dL;have fD:=eZ;have HB:=kf;clear aE aH aK a_ alp bw alx cL dL eZ kf;(try clear hb);(try clear aM);obtain ⟨BQ,Cu,YZ⟩:=Kd.eF E6.out;subst YZ;have aaV:jv.cell? ⟨bf,0,none⟩=some (.slice uX kO.length vE):=(av cm.out 0).trans rfl;have abq:=aD cm.out 0))
        go_roundg k3
        case measure=>have:=alj.out;have:=bB.out;have:=cN.out;omega
        case rel=>exact ⟨(t120),(.slice BQ t120.length Cu),H',⟨by have:=alj.out;have:=bB.out;have:=cN.out;omega⟩,⟨by (try simp only [cF]);(try simp only [eG]);(with_reducible repeat (first|apply Kd.bH|apply Kd.bL|apply Kd.bn));exact Kd.alq (Kd.jC (p:=⟨bf,0,none⟩) (Kd.kX cE.out cm.out (by decide)) (fun _ hk=>hk.2) (.slice BQ t120.length Cu)) (fun _ hk=>⟨hk.1.1.1.1,⟨hk.1.2,⟨hk.1.1.1.2.2.1,hk.1.1.1.2.2.2⟩⟩⟩)⟩,⟨by (try simp only [cF]);(try simp only [eG]);(with_reducible repeat (first|apply Kd.bH|apply Kd.bL|apply Kd.bn));exact Kd.alq (Kd.jC (p:=⟨bf,0,none⟩) (Kd.kX eS.out cm.out (by decide)) (fun _ hk=>hk.2) (.slice BQ t120.length Cu)) (fun _ hk=>⟨hk.1.1.1.1,⟨hk.1.2,hk.1.1.1.2.2⟩⟩)⟩,⟨by (try simp only [cF]);(try simp only [eG]);(with_reducible repeat (first|apply Kd.bH|apply Kd.bL|apply Kd.bn));exact Kd.alq (Kd.jC (p:=⟨bf,0,none⟩) (Kd.kX E6.out cm.out (by decide)) (fun _ hk=>hk.2) (.slice BQ t120.length Cu)) (fun _ hk=>⟨hk.1.1.1.1.1.1.2,⟨hk.1.1.1.1.1.2,⟨hk.1.1.1.2,hk.1.2⟩⟩⟩)⟩,⟨by (try simp only [cF]);(try simp only [eG]);(with_reducible repeat (first|apply Kd.bH|apply Kd.bL|apply Kd.bn));exact Kd.alq (Kd.jC (p:=⟨bf,0,none⟩) (Kd.kX fk.out cm.out (by decide)) (fun _ hk=>hk.2) (.slice BQ t120.length Cu)) (fun _ hk=>⟨hk.1.1.1.1,⟨hk.1.2,hk.1.1.1.2.2⟩⟩)⟩,⟨by (try simp only [cF]);(try simp only [eG]);(with_reducible repeat (first|refine eg ?_ _|refine cw ?_|refine dV ?_ _));refine fW ?_ gu.out _;exact bk⟩,⟨by (try simp only [cF]);(try simp only [eG]);(with_reducible repeat (first|refine eg ?_ _|refine cw ?_|refine dV ?_ _));refine nH (cs:=#[.slice uX kO.length vE]) ?_ 0 _ rfl;exact bk⟩,⟨by (try simp only [cF]);(try simp only [eG]);(with_reducible repeat (first|refine eg ?_ _|refine cw ?_|refine dV ?_ _));refine fW ?_ jN.out _;exact bk⟩,⟨by (try simp only [cF]);(try simp only [eG]);(with_reducible repeat (first|refine eg ?_ _|refine cw ?_|refine dV ?_ _));refine fW ?_ rK.out _;exact bk⟩,⟨bl⟩⟩
     rw [if_pos c38] at H
     have wV:=decide_eq_true c38
     (try simp only [cF,eG] at wV)
     clear c38
     replace H:=iS H;obtain ⟨c39,H⟩:=H
     have AA:=decide_eq_true c39
     clear c39
     replace H:=iS H;obtain ⟨c40,H⟩:=H
     have uu:=decide_eq_true c40
     (try simp only [cF,eG] at uu)
     clear c40
     by_cases c41:(rd cu jY) < gG
     case neg =>
      rw [if_neg c41] at H
      have yt:decide ((rd cu jY) < gG)=false:=decide_eq_false c41
      clear c41
      have H':=k0 H
      clear H
      try go_wp2
      replace cE:=k0 (Kd.bn cE.out);replace eS:=k0 (Kd.bn eS.out);replace cR:=k0 (Kd.bn cR.out);replace fk:=k0 (Kd.bn fk.out);replace ag:=k0 (cw ag.out);replace cm:=k0 (cw cm.out);replace dr:=k0 (cw dr.out);replace fD:=k0 (cw fD.out);replace HB:=k0 (cP HB.out)
      have iy:0≤(jY:Int):=oD
      have iz:jY < (cu.length:Int):=oD
      obtain ⟨l5,e114,iU⟩:=Kd.bJ (Kd.bx fk.out).2.2 jY iy iz
      cases e114
      replace iy:=eq_true iy
      replace iz:=eq_true iz
      refine lU (n:=6) (S:=fun w'=>w'.cell? ⟨bp,0,none⟩=some (.slice (some l5) cu.length eX)∧w'.cell? ⟨er,0,none⟩=some (.int .i64 gG)∧w'.cell? (l5.add (jY).toNat)=some (.int .i64 (rd cu jY))) (ds:=[]) (ba 6 0) (by kernel_rfl) rfl rfl ⟨(av dr.out 0).trans rfl,(av fD.out 0).trans rfl,iU⟩ (fun hHeld=>?_)
      generalize wr.drew=TD at cE eS cR fk ag cm dr fD HB iU hHeld ⊢
      refine mM (i:=1) (N:=some 35) (v:=?_) (a':=?_) (ba 6 2) rfl rfl (by kernel_rfl) (fun _ _ _ h=>h) (Or.inl ⟨by rfl,?_⟩) ?_ ?_
      rotate_left;· intro w';go_simp;with_reducible rfl
      rotate_left;· simp only [Act.put,zI,zZ,zS,cl,cv];rfl
      refine nv (i:=0) (N:=some 34) (v:=?_) (a':=?_) (ba 6 3) rfl rfl (by kernel_rfl) (fun _ _ _ h=>h) (Or.inl ⟨by rfl,?_⟩) hHeld ?_ ?_
      rotate_left;· rintro w' ⟨s0,s1,s2⟩;go_simp;with_reducible rfl
      rotate_left;· simp only [Act.put,zI,zZ,zS,cl,cv];rfl
      refine mM (i:=2) (N:=some 36) (v:=?_) (a':=?_) (ba 6 7) rfl rfl (by kernel_rfl) (fun _ _ _ h=>h) (Or.inl ⟨by rfl,?_⟩) ?_ ?_
      rotate_left;· intro w';go_simp;with_reducible rfl
      rotate_left;· simp only [Act.put,zI,zZ,zS,cl,cv];rfl
      refine nv (i:=3) (N:=some 37) (v:=?_) (a':=?_) (ba 6 15) rfl rfl (by kernel_rfl) (fun _ _ _ h=>h) (Or.inl ⟨by rfl,?_⟩) hHeld ?_ ?_
      rotate_left;· rintro w' ⟨s0,s1,s2⟩;go_simp;with_reducible rfl
      rotate_left;· simp only [Act.put,zI,zZ,zS,cl,cv];rfl
      refine nv (i:=4) (N:=some 38) (v:=?_) (a':=?_) (ba 6 31) rfl rfl (by kernel_rfl) (fun _ _ _ h=>h) (Or.inl ⟨by rfl,?_⟩) hHeld ?_ ?_
      rotate_left;· rintro w' ⟨s0,s1,s2⟩;go_simp;with_reducible rfl
      rotate_left;· simp only [Act.put,zI,zZ,zS,cl,cv];rfl
      refine mM (i:=5) (N:=some 39) (v:=?_) (a':=?_) (ba 6 63) rfl rfl (by kernel_rfl) (fun _ _ _ h=>h) (Or.inl ⟨by rfl,?_⟩) ?_ ?_
      rotate_left;· intro w';go_simp;with_reducible rfl
      rotate_left;· simp only [Act.put,zI,zZ,zS,cl,cv];rfl
      refine lQ (by kernel_rfl) ?_
      try go_wp2
      (try simp only [← eG])
      go_roundg k2
      case measure=>have:=alj.out;have:=bB.out;omega
      case rel=>exact ⟨(gV),(wrap64 (jY+1)),(gG),rs,H',⟨by have:=alj.out;have:=bB.out;omega⟩,⟨by (try simp only [cF]);(try simp only [eG]);(with_reducible repeat (first|apply Kd.bH|apply Kd.bL|apply Kd.bn));exact cE.out⟩,⟨by (try simp only [cF]);(try simp only [eG]);(with_reducible repeat (first|apply Kd.bH|apply Kd.bL|apply Kd.bn));exact eS.out⟩,⟨by (try simp only [cF]);(try simp only [eG]);(with_reducible repeat (first|apply Kd.bH|apply Kd.bL|apply Kd.bn));exact cR.out⟩,⟨by (try simp only [cF]);(try simp only [eG]);(with_reducible repeat (first|apply Kd.bH|apply Kd.bL|apply Kd.bn));exact fk.out⟩,⟨by (try simp only [cF]);(try simp only [eG]);exact bk⟩,⟨by (try simp only [cF]);(try simp only [eG]);exact bk⟩,⟨by (try simp only [cF]);(try simp only [eG]);exact bk⟩,⟨by (try simp only [cF]);(try simp only [eG]);exact bk⟩,⟨bl⟩⟩
     rw [if_pos c41] at H
     have yt:=decide_eq_true c41
     clear c41
     replace H:=iS H;obtain ⟨c42,H⟩:=H
     have wX:=decide_eq_true c42
     (try simp only [cF,eG] at wX)
     clear c42
     obtain ⟨dU,gh⟩:∃ y_:List Int,y_=(gV.set (jY:Int).toNat 1):=⟨_,rfl⟩
     replace H:(bV.l1 k2 a2 dU cu (qJ.length:Int) (wrap64 (jY+1)) af aa qH cu gG)=some r:=by first|(rw [gh];with_reducible exact H)|(have ax:=(Option.bind_some _ _).symm.trans H;rw [gh];with_reducible exact ax)|(have ax:=(Option.bind_some _ _).symm.trans H;with_reducible exact ax)|with_reducible exact H|(rw [gh];exact H)|exact H
     have mT:=k0 gh
     clear gh
     have H':=k0 H
     clear H
     try go_wp2
     replace cE:=k0 (Kd.bn cE.out);replace eS:=k0 (Kd.bn eS.out);replace cR:=k0 (Kd.bn cR.out);replace fk:=k0 (Kd.bn fk.out);replace ag:=k0 (cw ag.out);replace cm:=k0 (cw cm.out);replace dr:=k0 (cw dr.out);replace fD:=k0 (cw fD.out);replace HB:=k0 (cP HB.out)
     have iy:0≤(jY:Int):=oD
     have iz:jY < (cu.length:Int):=oD
     obtain ⟨l5,e114,iU⟩:=Kd.bJ (Kd.bx fk.out).2.2 jY iy iz
     cases e114
     replace iy:=eq_true iy
     replace iz:=eq_true iz
     refine lU (n:=6) (S:=fun w'=>w'.cell? ⟨bp,0,none⟩=some (.slice (some l5) cu.length eX)∧w'.cell? ⟨er,0,none⟩=some (.int .i64 gG)∧w'.cell? (l5.add (jY).toNat)=some (.int .i64 (rd cu jY))) (ds:=[]) (ba 6 0) (by kernel_rfl) rfl rfl ⟨(av dr.out 0).trans rfl,(av fD.out 0).trans rfl,iU⟩ (fun hHeld=>?_)
     generalize wr.drew=G7 at cE eS cR fk ag cm dr fD HB iU hHeld ⊢
     refine mM (i:=1) (N:=some 35) (v:=?_) (a':=?_) (ba 6 2) rfl rfl (by kernel_rfl) (fun _ _ _ h=>h) (Or.inl ⟨by rfl,?_⟩) ?_ ?_
     rotate_left;· intro w';go_simp;with_reducible rfl
     rotate_left;· simp only [Act.put,zI,zZ,zS,cl,cv];rfl
     refine nv (i:=0) (N:=some 34) (v:=?_) (a':=?_) (ba 6 3) rfl rfl (by kernel_rfl) (fun _ _ _ h=>h) (Or.inl ⟨by rfl,?_⟩) hHeld ?_ ?_
     rotate_left;· rintro w' ⟨s0,s1,s2⟩;go_simp;with_reducible rfl
     rotate_left;· simp only [Act.put,zI,zZ,zS,cl,cv];rfl
     refine mM (i:=2) (N:=some 36) (v:=?_) (a':=?_) (ba 6 7) rfl rfl (by kernel_rfl) (fun _ _ _ h=>h) (Or.inl ⟨by rfl,?_⟩) ?_ ?_
     rotate_left;· intro w';go_simp;with_reducible rfl
     rotate_left;· simp only [Act.put,zI,zZ,zS,cl,cv];rfl
     refine nv (i:=3) (N:=some 37) (v:=?_) (a':=?_) (ba 6 15) rfl rfl (by kernel_rfl) (fun _ _ _ h=>h) (Or.inl ⟨by rfl,?_⟩) hHeld ?_ ?_
     rotate_left;· rintro w' ⟨s0,s1,s2⟩;go_simp;with_reducible rfl
     rotate_left;· simp only [Act.put,zI,zZ,zS,cl,cv];rfl
     refine nv (i:=4) (N:=some 38) (v:=?_) (a':=?_) (ba 6 31) rfl rfl (by kernel_rfl) (fun _ _ _ h=>h) (Or.inl ⟨by rfl,?_⟩) hHeld ?_ ?_
     rotate_left;· rintro w' ⟨s0,s1,s2⟩;go_simp;with_reducible rfl
     rotate_left;· simp only [Act.put,zI,zZ,zS,cl,cv];rfl
     refine mM (i:=5) (N:=some 39) (v:=?_) (a':=?_) (ba 6 63) rfl rfl (by kernel_rfl) (fun _ _ _ h=>h) (Or.inl ⟨by rfl,?_⟩) ?_ ?_
     rotate_left;· intro w';go_simp;with_reducible rfl
     rotate_left;· simp only [Act.put,zI,zZ,zS,cl,cv];rfl
     refine lQ (by kernel_rfl) ?_
     have zx:0≤(jY:Int):=oD
     have zz:(jY:Int) < ((gV.length:Int):Int):=oD
     obtain ⟨vJ,ahi,O8,PI,ZB,ahd,Nq⟩:=Kd.lp cE.out (by omega)
     (first|cases O8|(injection O8 with bh dm di;(first|subst bh|(injection bh with bh;subst bh));subst di;clear dm))
     have UP:=k0 PI
     have afY:=k0 Nq
     clear PI ZB Nq
     obtain ⟨RZ,ah7⟩:=Kd.jB 0 cE.out (jY:Int) zx zz
     replace zx:=eq_true zx
     replace zz:=eq_true zz
     obtain ⟨ake,akh⟩:=Kd.jB 0 cE.out (jY:Int) oD oD
     have Ik:=Kd.kW cE.out (jY:Int) 1
     try go_wp2_with (first|((with_reducible refine lF (t:=2) (p:=42) rfl ?_);refine lJ (t:=2) (p:=42) (v:=?ak') (w1:=(G7.setCell ⟨vJ,(jY:Int).toNat,none⟩ (.int .i64 1))) ?hg ?ho ?hn ?hr ?_;(case ho=>rfl);(case hg=>rfl);(case hn=>rfl);(case hr=>first|(go_simp;done)|(go_simp;rfl));intro BD hw;have hg:G7.grownBy BD (some vJ):=(by rw [hw];exact Ik.2);have ec:Kd.R (Kd.int .i64) 2 BD w.heap.size (fun k_=>some k_ ≠ (.slice (some l5) cu.length eX:Value).ownBlock∧some k_ ≠ (u109000:Value).ownBlock∧some k_ ≠ (.slice (some l5) cu.length eX:Value).ownBlock∧k_ ≠ er) (.slice (some ⟨vJ,0,none⟩) gV.length oX) dU:=(by rw [hw,mT.out];exact Ik.1);clear Ik;have aE:=k0 (ec);have aH:=k0 (Kd.mz (v:=(.slice (some ⟨vJ,0,none⟩) gV.length oX)) (v1:=(.slice (some ⟨vJ,0,none⟩) gV.length oX)) (ok:=(fun k_=>some k_ ≠ (u109000:Value).ownBlock∧k_ ≠ er)) (by (with_reducible repeat (first|apply Kd.bH|apply Kd.bL|apply Kd.bn));exact Kd.alq eS.out (fun _ hk=>⟨⟨hk.2.1,hk.2.2⟩,hk.1⟩)) hg (.inl rfl));have aK:=k0 (Kd.mz (v:=(.slice (some ⟨vJ,0,none⟩) gV.length oX)) (v1:=(.slice (some ⟨vJ,0,none⟩) gV.length oX)) (ok:=(fun k_=>some k_ ≠ (.slice (some l5) cu.length eX:Value).ownBlock∧some k_ ≠ (.slice (some l5) cu.length eX:Value).ownBlock∧k_ ≠ er)) (by (with_reducible repeat (first|apply Kd.bH|apply Kd.bL|apply Kd.bn));exact Kd.alq cR.out (fun _ hk=>⟨⟨hk.2.1,⟨hk.2.2.1,hk.2.2.2⟩⟩,hk.1⟩)) hg (.inl rfl));have a_:=k0 (Kd.mz (v:=(.slice (some ⟨vJ,0,none⟩) gV.length oX)) (v1:=(.slice (some ⟨vJ,0,none⟩) gV.length oX)) (ok:=(fun k_=>some k_ ≠ (u109000:Value).ownBlock∧k_ ≠ er)) (by (with_reducible repeat (first|apply Kd.bH|apply Kd.bL|apply Kd.bn));exact Kd.alq fk.out (fun _ hk=>⟨⟨hk.2.1,hk.2.2⟩,hk.1⟩)) hg (.inl rfl));have alp:=k0 (iQ (g:=ai) (o:=sO af aq aa ak 31) bk hg (Kd.gY cE.out ag.out (by decide)));have bw:=k0 (iQ (g:=bf) (o:=.cells #[u109000] 28 (0,0)) bk hg (Kd.gY cE.out cm.out (by decide)));have alx:=k0 (iQ (g:=bp) (o:=.cells #[.slice (some l5) cu.length eX] 28 (0,0)) bk hg (Kd.gY cE.out dr.out (by decide)));have cL:=k0 (iQ (g:=er) (o:=.cells #[.int .i64 gG] 2 (0,0)) bk hg (Kd.Wn cE.out (fun _ hk=>hk.2.2.2)));have dL:=k0 ((by rw [hw];exact dJ (HB.out) UP.out:Below w.heap.size w BD));clear cE;clear eS;clear cR;clear fk;clear ag;clear cm;clear dr;clear fD;clear HB;have cE:=aE;have eS:=aH;have cR:=aK;have fk:=a_;have ag:=alp;have cm:=bw;have dr:=alx;have fD:=cL;have HB:=dL;clear aE aH aK a_ alp bw alx cL dL;clear hg hw ec))
     (try simp only [← eG])
     go_roundg k2
     case measure=>have:=alj.out;have:=bB.out;omega
     case rel=>exact ⟨(dU),(wrap64 (jY+1)),(gG),rs,H',⟨by have:=alj.out;have:=bB.out;omega⟩,⟨by (try simp only [cF]);(try simp only [eG]);(with_reducible repeat (first|apply Kd.bH|apply Kd.bL|apply Kd.bn));exact cE.out⟩,⟨by (try simp only [cF]);(try simp only [eG]);(with_reducible repeat (first|apply Kd.bH|apply Kd.bL|apply Kd.bn));exact Kd.alq eS.out (fun _ hk=>⟨hk.2,⟨hk.1.1,hk.1.2⟩⟩)⟩,⟨by (try simp only [cF]);(try simp only [eG]);(with_reducible repeat (first|apply Kd.bH|apply Kd.bL|apply Kd.bn));exact Kd.alq cR.out (fun _ hk=>⟨hk.2,⟨hk.1.1,⟨hk.1.2.1,hk.1.2.2⟩⟩⟩)⟩,⟨by (try simp only [cF]);(try simp only [eG]);(with_reducible repeat (first|apply Kd.bH|apply Kd.bL|apply Kd.bn));exact Kd.alq fk.out (fun _ hk=>⟨hk.2,⟨hk.1.1,hk.1.2⟩⟩)⟩,⟨by (try simp only [cF]);(try simp only [eG]);exact bk⟩,⟨by (try simp only [cF]);(try simp only [eG]);exact bk⟩,⟨by (try simp only [cF]);(try simp only [eG]);exact bk⟩,⟨by (try simp only [cF]);(try simp only [eG]);exact bk⟩,⟨bl⟩⟩
/-! ### F97: function 97 -/
def ir.l0 : Nat → Int → List Int → Int → Int → Option (Int)
 | 0,_,_,_,_=>none
 | k+1,x3,x6,x7,x8=>if x8 < x7 then (if 0≤x8 then (if x8 < (x6.length:Int) then (ir.l0 k (wrap64 (x3+(rd x6 x8))) x6 x7 (wrap64 (x8+1))) else (none)) else (none)) else (some x3)
def ir.f (k:Nat) (l0:List Int):Option (Int):=ir.l0 k 0 l0 (l0.length:Int) 0
theorem ir.bU : ∀ k, (∀ y0 y1 y2 y3, aj (ir.l0 k y0 y1 y2 y3) (ir.l0 (k + 1) y0 y1 y2 y3))
 | 0=>fun _ _ _ _ r h=>by simp [ir.l0] at h
 | k+1=>by
  have alg:=ir.bU k
  ·intro y0 y1 y2 y3
   unfold ir.l0
   repeat' first
    | (with_reducible first|exact alg _ _ _ _|exact aj.refl _|exact aj.none _|refine aj.ite ?_ ?_|refine aj.bind ?_ (fun _=>?_))
    | exact alg _ _ _ _|exact aj.none _|refine aj.ite ?_ ?_|refine aj.bind ?_ (fun _=>?_)
theorem ir.mono:∀ a0 k,aj (ir.f k a0) (ir.f (k+1) a0):=by
 intro a0 k
 have alg:=ir.bU k
 unfold ir.f
 repeat' first
  | (with_reducible first|exact alg _ _ _ _|exact aj.refl _|exact aj.none _|refine aj.ite ?_ ?_|refine aj.bind ?_ (fun _=>?_))
  | exact alg _ _ _ _|exact aj.none _|refine aj.ite ?_ ?_|refine aj.bind ?_ (fun _=>?_)
set_option maxHeartbeats 8000000 in
set_option maxRecDepth 100000 in
theorem ir.calls (k : Nat) (A0 : Option Addr) (c0 : Nat) (l0 : List Int) (r : Int) (w : World) (cS : Kd.C (Kd.int .i64) w A0 l0.length l0) (hc0 : l0.length ≤ c0) (h : ir.f k l0 = some r) :
  Calls Try.prog 97 #[.slice A0 l0.length c0] w fun e w'=>e=.returned (.int .i64 r)∧bI w w':=by
 have fe:=k0 cS
 have alR:=k0 hc0
 clear cS hc0
 have H:(ir.l0 k 0 l0 (l0.length:Int) 0)=some r:=h
 clear h
 have H':=k0 H
 clear H
 go_enter Try.func97,Try.ntmps97
 go_wp2
 go_loopg [3,8] k (fun kq v3 v8 w'=>∃ (bC:Int) (bg:Int),v3=.int .i64 bC∧v8=.int .i64 bg∧au (ir.l0 kq bC l0 (l0.length:Int) bg=some r)∧au (kq≤k)∧bI w w')
 case atStart=>exact ⟨(0),(0),rs,rs,H',⟨Nat.le_refl _⟩,by repeat (first|exact bI.refl _|apply bI.step)⟩
 case round =>
  clear H'
  obtain ⟨bC,bg,rfl,rfl,HA,alj,⟨m1,rfl⟩⟩:=hrel
  cases gk with
  | zero=>exact absurd HA.out (by simp [ir.l0])
  | succ k1 =>
   have H:=HA.out
   clear HA
   simp only [ir.l0] at H
   by_cases c2:bg < (l0.length:Int)
   case neg =>
    rw [if_neg c2] at H
    have vB:decide (bg < (l0.length:Int))=false:=decide_eq_false c2
    clear c2
    obtain rfl:=Option.some.inj H
    go_wp2
    go_ret
    exact ⟨by first|rfl|(simp;done)|(simp [*];done),by repeat (first|exact bI.refl _|apply bI.step)⟩
   rw [if_pos c2] at H
   have vB:=decide_eq_true c2
   clear c2
   replace H:=iS H;obtain ⟨c3,H⟩:=H
   have gZ:=decide_eq_true c3
   clear c3
   replace H:=iS H;obtain ⟨c4,H⟩:=H
   have eD:=decide_eq_true c4
   clear c4
   have H':=k0 H
   clear H
   have eT:0≤(bg:Int):=oD
   have eU:bg < (l0.length:Int):=oD
   obtain ⟨qV,e101,pR⟩:=Kd.bJ fe.out bg eT eU
   cases e101
   replace eT:=eq_true eT
   replace eU:=eq_true eU
   go_wp2
   go_roundg k1
   case measure=>have:=alj.out;omega
   case rel=>exact ⟨(wrap64 (bC+(rd l0 bg))),(wrap64 (bg+1)),rs,rs,H',⟨by have:=alj.out;omega⟩,by repeat (first|exact bI.refl _|apply bI.step)⟩
/-! ### F99: function 99 -/
def xM (x:Int):Bool:=x != 0
theorem adL (x:Int) (w1:World):Calls Try.prog 99 #[.int .i64 x] w1 fun e w'=>e=.returned (.bool (xM x))∧bI w1 w':=by
 have HX:au (xM x=(x != 0)):=⟨rfl⟩
 go_enter Try.func99,Try.ntmps99
 go_wp2
 go_ret
 exact ⟨by rw [HX.out];rfl,by repeat (first|exact bI.refl _|apply bI.step)⟩
theorem adK (p : Int → Bool) (A : Option Addr) (c : Nat) (l : List Int) (w : World) (hr : Kd.C (Kd.int .i64) w A l.length l)
 (hp:∀ x w1,Below w.heap.size w w1→Calls Try.prog 99 #[.int .i64 x] w1 fun e w'=>e=.returned (.bool (p x))∧Below w1.heap.size w1 w') :
 Calls Try.prog 188 #[.slice A l.length c,.func (.func 99) #[] #[]] w fun e w'=>e=.returned (.int .i64 (idxFrom p l 0))∧Below w.heap.size w w':=by
 have HR:=k0 hr
 have HP:=k0 hp
 have hlen:l.length≤9223372036854775807:=hr.2.1
 clear hr hp
 go_enter Try.func188,Try.ntmps188
 go_wp2_with fail
 go_loopw [8] (fun i wr=>∃ k:Nat,k≤l.length∧i=.int .i64 k∧au (idxFrom p (l.drop k) k=idxFrom p l 0)∧au (Below w.heap.size w wr)) (fun i _=>l.length - (intOf i).toNat)
 case atStart=>exact ⟨0,Nat.zero_le _,rfl,⟨by simp⟩,⟨Below.refl _ _⟩⟩
 case round =>
  obtain ⟨k,hk,rfl,HI,HB⟩:=hrel
  by_cases hlt:k < l.length
  case neg =>
   have HD:au (idxFrom p l 0=-1):=⟨by rw [← HI.out,List.drop_of_length_le (by omega)];rfl⟩
   have hb:decide (k < l.length)=false:=by simp;omega
   go_wp2
   go_ret
   exact ⟨by rw [HD.out];rfl,HB.out⟩
  obtain ⟨ad,e,hcell⟩:=Kd.bJ (Kd.bK HR.out HB.out) k (by omega) (by omega)
  cases e
  rw [Int.toNat_natCast] at hcell
  cases hpx:p (rd l k) with
  | true =>
   have HD:au (idxFrom p l 0=k):=⟨by rw [← HI.out,Bo p l k hlt,hpx];rfl⟩
   have HX:=k0 hpx
   clear hpx
   go_wp2_with (go_at_call 99;refine (HP.out _ _ HB.out).mono ?_;rw [HX.out];rintro e w' ⟨rfl,cr⟩;have fc:=k0 (aI HB.out cr);clear cr)
   go_ret
   exact ⟨by rw [HD.out];rfl,fc.out⟩
  | false =>
   have HD:au (idxFrom p (l.drop (k+1)) (k+1)=idxFrom p l 0):=⟨by rw [← HI.out,Bo p l k hlt,hpx];rfl⟩
   have HX:=k0 hpx
   clear hpx
   go_wp2_with (go_at_call 99;refine (HP.out _ _ HB.out).mono ?_;rw [HX.out];rintro e w' ⟨rfl,cr⟩;have fc:=k0 (aI HB.out cr);clear cr)
   go_roundw
   case rel=>exact ⟨k+1,by omega,by go_num,HD,fc⟩
   case measure=>simp [intOf];omega
theorem adJ (p : Int → Bool) (A : Option Addr) (c : Nat) (l : List Int) (w : World) (hr : Kd.C (Kd.int .i64) w A l.length l)
 (hp:∀ x w1,Below w.heap.size w w1→Calls Try.prog 99 #[.int .i64 x] w1 fun e w'=>e=.returned (.bool (p x))∧Below w1.heap.size w1 w') :
 Calls Try.prog 98 #[.slice A l.length c,.func (.func 99) #[] #[]] w fun e w'=>e=.returned (.bool (l.any p))∧Below w.heap.size w w':=by
 have HC:=adK p A c l w hr hp
 have HX:au (l.any p=decide (0≤idxFrom p l 0)):=⟨(K4 p l 0).symm⟩
 have oN:=k0 HC
 clear HC hr hp
 go_enter Try.func98,Try.ntmps98
 go_wp2_with (go_at_call 188;refine oN.out.mono ?_;rintro e w' ⟨rfl,cr⟩;have fc:=k0 cr;clear cr)
 go_ret
 exact ⟨by rw [HX.out];rfl,fc.out⟩
def al5.f (k:Nat) (l0:List Int):Option Bool:=some (l0.any xM)
theorem al5.mono:∀ a0 k,aj (al5.f k a0) (al5.f (k+1) a0):=fun _ _ _ h=>h
set_option maxHeartbeats 8000000 in
set_option maxRecDepth 100000 in
theorem al5.calls (k : Nat) (A0 : Option Addr) (c0 : Nat) (l0 : List Int) (r : Bool) (w : World) (cS : Kd.C (Kd.int .i64) w A0 l0.length l0) (hc0 : l0.length ≤ c0) (h : al5.f k l0 = some r) :
  Calls Try.prog 98 #[.slice A0 l0.length c0,.func (.func 99) #[] #[]] w fun e w'=>e=.returned (.bool r)∧Below w.heap.size w w':=by
 obtain rfl:=Option.some.inj h
 exact adJ xM A0 c0 l0 w cS (fun x w1 _=>(adL x w1).mono fun e w' ⟨h1,h2⟩=>⟨h1,h2.below⟩)
end Go.Proofs.Ytoebojnhchocaaa.D
/- Set with little white space, by a program. -/
