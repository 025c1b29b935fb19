/- The functions that one law reaches, each as a Lean function, and that Go's call comes to what it says. Condition of each: that the Lean function answers (is not none). -/
import Derived.Test.YtoebojnhchocaaaCx0
import Derived.Test.YtoebojnhchocaaaCx11
import Derived.Test.YtoebojnhchocaaaCx13
import Derived.Test.YtoebojnhchocaaaCx15
import Derived.Test.YtoebojnhchocaaaCx16
import Derived.Test.YtoebojnhchocaaaCx17
namespace Go.Proofs.Ytoebojnhchocaaa.C
open Go.RowKit Go.Proofs.bI.en Go.Proofs.bI.je Go.Proofs.bI.jC
attribute [local go_sem] max2_int min2_int max_two min_two max_three min_three max_four min_four   -- for this text's walks alone
set_option linter.unusedVariables false
set_option linter.unusedSimpArgs false
/-! ### F93: function 93 -/
theorem RM (w:World) (a:Option Addr) (n c:Nat):(binOp .neq 28 (.slice a n c) (.slice none 0 0)).run Try.prog w=.ok (.bool (!a.isNone)) w:=run_neq_slice_nil w 28 2 a n c Try.underlying28
mutual
def akr.l0 : Nat → Int → List Int → Int → List (List Int) → List Int → Int → Option (List Int)
 | 0,_,_,_,_,_,_=>none
 | k+1,x2,pS,bR,bJ,qv,tJ=>if tJ > 0 then (if 0≤bR then (if (bR:Int).toNat≤35184372088832 then ((some (List.replicate (bR:Int).toNat 0:List Int)).bind fun qz=>(akr.l1 k x2 qz pS (qz.length:Int) 0 bR bJ qv pS tJ)) else (none)) else (none)) else ((akt.f k bR bJ qv x2).bind fun t123=>(akr.l3 k x2 t123 bR bJ qv))
def akr.l1 : Nat → Int → List Int → List Int → Int → Int → Int → List (List Int) → List Int → List Int → Int → Option (List Int)
 | 0,_,_,_,_,_,_,_,_,_,_=>none
 | k+1,x2,fc,pS,Lo,xG,bR,bJ,qv,xF,tJ=>if xG < Lo then (if 0≤xG then (if xG < (xF.length:Int) then (if (rd xF xG) < tJ then (if xG < (fc.length:Int) then (akr.l1 k x2 (fc.set (xG:Int).toNat 1) pS Lo (wrap64 (xG+1)) bR bJ qv xF tJ) else (none)) else (akr.l1 k x2 fc pS Lo (wrap64 (xG+1)) bR bJ qv xF tJ)) else (none)) else (none)) else (akr.l2 k x2 fc pS bR bJ qv xF tJ)
def akr.l2 : Nat → Int → List Int → List Int → Int → List (List Int) → List Int → List Int → Int → Option (List Int)
 | 0,_,_,_,_,_,_,_,_=>none
 | k+1,x2,fc,pS,bR,bJ,qv,xF,tJ=>(ig.f k bR bJ).bind fun t116=>((nX.f k t116 xF tJ qv).bind fun t119=>(if t119=true then ((cF.f k bR bJ qv fc).bind fun t120=>(akr.l2 k x2 fc pS bR bJ t120 xF tJ)) else (akr.l0 k x2 pS bR bJ qv (wrap64 (tJ - 1)))))
def akr.l3 : Nat → Int → List Int → Int → List (List Int) → List Int → Option (List Int)
 | 0,_,_,_,_,_=>none
 | k+1,x2,fK,bR,bJ,qv=>if (fK.length:Int)=0 then (some qv) else ((cF.f k bR bJ qv fK).bind fun t126=>((akt.f k bR bJ t126 x2).bind fun t129=>(akr.l3 k x2 t129 bR bJ t126)))
end
def akr.f (k:Nat) (af:Int) (aa:List (List Int)) (l1:List Int) (a2:Int):Option (List Int):=(cm.f k af aa l1 a2).bind fun t102=>((cI.f k af aa a2).bind fun t105=>(akr.l0 k a2 t105 af aa t102 af))
theorem akr.b8 : ∀ k, (∀ y0 y1 y2 y3 y4 y5, aj (akr.l0 k y0 y1 y2 y3 y4 y5) (akr.l0 (k + 1) y0 y1 y2 y3 y4 y5)) ∧ (∀ y0 y1 y2 y3 y4 y5 y6 y7 y8 y9, aj (akr.l1 k y0 y1 y2 y3 y4 y5 y6 y7 y8 y9) (akr.l1 (k + 1) y0 y1 y2 y3 y4 y5 y6 y7 y8 y9)) ∧ (∀ y0 y1 y2 y3 y4 y5 y6 y7, aj (akr.l2 k y0 y1 y2 y3 y4 y5 y6 y7) (akr.l2 (k + 1) y0 y1 y2 y3 y4 y5 y6 y7)) ∧ (∀ y0 y1 y2 y3 y4, aj (akr.l3 k y0 y1 y2 y3 y4) (akr.l3 (k + 1) y0 y1 y2 y3 y4))
 | 0=>⟨fun _ _ _ _ _ _ r h=>by simp [akr.l0] at h,fun _ _ _ _ _ _ _ _ _ _ r h=>by simp [akr.l1] at h,fun _ _ _ _ _ _ _ _ r h=>by simp [akr.l2] at h,fun _ _ _ _ _ r h=>by simp [akr.l3] at h⟩
 | k+1=>by
  obtain ⟨akk,ih1,ih2,ih3⟩:=akr.b8 k
  refine ⟨?_, ?_, ?_, ?_⟩ <;> intros <;> (first | unfold akr.l0 | unfold akr.l1 | unfold akr.l2 | unfold akr.l3) <;> repeat' first
   | (with_reducible first|exact akk _ _ _ _ _ _|exact ih1 _ _ _ _ _ _ _ _ _ _|exact ih2 _ _ _ _ _ _ _ _|exact ih3 _ _ _ _ _|exact cI.mono _ _ _ _|exact cF.mono _ _ _ _ _|exact ig.mono _ _ _|exact cm.mono _ _ _ _ _|exact akt.mono _ _ _ _ _|exact nX.mono _ _ _ _ _|exact aj.refl _|exact aj.none _|refine aj.ite ?_ ?_|refine aj.bind ?_ (fun _=>?_))
   | exact akk _ _ _ _ _ _|exact ih1 _ _ _ _ _ _ _ _ _ _|exact ih2 _ _ _ _ _ _ _ _|exact ih3 _ _ _ _ _|exact cI.mono _ _ _ _|exact cF.mono _ _ _ _ _|exact ig.mono _ _ _|exact cm.mono _ _ _ _ _|exact akt.mono _ _ _ _ _|exact nX.mono _ _ _ _ _|exact aj.none _|refine aj.ite ?_ ?_|refine aj.bind ?_ (fun _=>?_)
theorem akr.mono:∀ a0 a1 a2 a3 k,aj (akr.f k a0 a1 a2 a3) (akr.f (k+1) a0 a1 a2 a3):=by
 intro a0 a1 a2 a3 k
 obtain ⟨akk,ih1,ih2,ih3⟩:=akr.b8 k
 unfold akr.f
 repeat' first
  | (with_reducible first|exact akk _ _ _ _ _ _|exact ih1 _ _ _ _ _ _ _ _ _ _|exact ih2 _ _ _ _ _ _ _ _|exact ih3 _ _ _ _ _|exact cI.mono _ _ _ _|exact cF.mono _ _ _ _ _|exact ig.mono _ _ _|exact cm.mono _ _ _ _ _|exact akt.mono _ _ _ _ _|exact nX.mono _ _ _ _ _|exact aj.refl _|exact aj.none _|refine aj.ite ?_ ?_|refine aj.bind ?_ (fun _=>?_))
  | exact akk _ _ _ _ _ _|exact ih1 _ _ _ _ _ _ _ _ _ _|exact ih2 _ _ _ _ _ _ _ _|exact ih3 _ _ _ _ _|exact cI.mono _ _ _ _|exact cF.mono _ _ _ _ _|exact ig.mono _ _ _|exact cm.mono _ _ _ _ _|exact akt.mono _ _ _ _ _|exact nX.mono _ _ _ _ _|exact aj.none _|refine aj.ite ?_ ?_|refine aj.bind ?_ (fun _=>?_)
def akr.T1:Bool × List (List Nat × List Nat):=(true,[([],[]),([],[]),([],[]),([0,1,2],[0,1,2]),([],[]),([],[]),([4,5,3],[4,5]),([],[]),([],[]),([7,3,6,0,1,2,3,7,8],[3,7]),([8,6,9,0,1,2,3,4,5,6,7,8,9],[6,8])])
def akr.B1:List Nat:=[0,0,0,7,0,0,63,0,0,511,1023]
theorem akr.aef:gF .any (opsOf Try.f93 1)=akr.T1:=by kernel_rfl
theorem akr.VV:akZ akr.T1.2 akr.B1=true:=by kernel_rfl
set_option maxHeartbeats 8000000 in
set_option maxRecDepth 100000 in
theorem akr.calls (k : Nat) (af : Int) (aq : Option Addr) (ak : Nat) (aa : List (List Int)) (A1 : Option Addr) (c1 : Nat) (l1 : List Int) (a2 : Int) (r : List Int) (w : World) (akv : Kd.C (Kd.slice 2 (Kd.int .i64)) w aq aa.length aa) (akw : aa.length ≤ ak) (cQ : Kd.C (Kd.int .i64) w A1 l1.length l1) (ef : l1.length ≤ c1) (h : akr.f k af aa l1 a2 = some r) :
  Calls Try.prog 93 #[.agg #[.int .i64 af,.slice aq aa.length ak],.slice A1 l1.length c1,.int .i64 a2] w fun e w'=>∃ dK:Value,e=.returned (dK)∧Kd.R (Kd.int .i64) 2 w' w.heap.size (fun _=>True) dK r∧Below w.heap.size w w':=by
 have j8:=Try.underlying31
 have bU:=k0 akv
 have cG:=k0 akw
 clear akv akw
 have ek:=k0 cQ
 have jZ:=k0 ef
 clear cQ ef
 have HB:=k0 (Below.refl w.heap.size w)
 have H:((cm.f k af aa l1 a2).bind fun t102=>((cI.f k af aa a2).bind fun t105=>(akr.l0 k a2 t105 af aa t102 af)))=some r:=h
 clear h
 replace H:=Option.bind_eq_some_iff.mp H
 obtain ⟨t102,jA,H⟩:=H
 replace H:((cI.f k af aa a2).bind fun t105=>(akr.l0 k a2 t105 af aa t102 af))=some r:=H
 have A4:=k0 jA
 clear jA
 replace H:=Option.bind_eq_some_iff.mp H
 obtain ⟨t105,alb,H⟩:=H
 replace H:(akr.l0 k a2 t105 af aa t102 af)=some r:=H
 have A5:=k0 alb
 clear alb
 have H':=k0 H
 clear H
 go_enter Try.func93,Try.ntmps93
 try go_wp2_with (first|((with_reducible refine cj (N:=3) rfl ?_);refine dJ ?hg (N:=3) ?hd (cs:=#[.int .i64 af,.slice aq aa.length ak]) (t:=31) ?hr ?_;(case hd=>rfl);(case hg=>rfl);(case hr=>first|(go_simp;done)|(go_simp;rfl));intro ai hg w6 aK hb;have ag:=k0 (aK);have aks:=k0 ((by rw [hg];exact (aU bl):w.heap.size≤ai));have ej:=aks;replace HB:=k0 (aI bl hb);clear hb aK hg))
 replace ag:=k0 (ct ag.out);replace HB:=k0 (cP HB.out)
 refine lJ (n:=11) (S:=fun w'=>w'.cell? ⟨ai,0,none⟩=some (.int .i64 af)∧w'.cell? ⟨ai,1,none⟩=some (.slice aq aa.length ak)) (ds:=[]) (ba 11 0) (by kernel_rfl) rfl rfl ⟨(av ag.out 0).trans rfl,(av ag.out 1).trans rfl⟩ (fun hHeld=>?_);refine qu akr.aef akr.VV (fun aA dh=>?_)
 generalize w6.drew=w7 at ag HB hHeld ⊢
 refine pu 1 (some 14) (ba 11 2) aA (h:=?_)
 refine pu 2 (some 15) (ba 11 6) aA (h:=?_)
 refine pu 5 (some 18) (ba 11 38) aA (h:=?_)
 refine ta 0 (some 13) (ba 11 39) aA dh hHeld (hy:=Or.inl ⟨by rfl,by rintro w' ⟨s0,s1⟩;go_simp;with_reducible rfl⟩) (h:=?_)
 refine ta 4 (some 17) (ba 11 55) aA dh hHeld (hy:=Or.inl ⟨by rfl,by rintro w' ⟨s0,s1⟩;go_simp;with_reducible rfl⟩) (h:=?_)
 refine tq (σ:=Value × Value × Nat × Nat) 2 (ba 11 511) (fun s_=>[(16,s_.1),(19,s_.2.1),(7,.pointer (some ⟨s_.2.2.1,0,none⟩)),(8,.pointer (some ⟨s_.2.2.2,0,none⟩))]) (fun s_ w'=>(w'.cell? ⟨ai,0,none⟩=some (.int .i64 af)∧w'.cell? ⟨ai,1,none⟩=some (.slice aq aa.length ak))∧(Kd.R (Kd.int .i64) 2 w' w.heap.size (fun k_=>some k_ ≠ (s_.2.1:Value).ownBlock) s_.1 t102)∧(Kd.R (Kd.int .i64) 2 w' w.heap.size (fun k_=>some k_ ≠ (s_.1:Value).ownBlock) s_.2.1 t105)∧(w'.heap[ai]?=some (sO af aq aa ak 31))∧(w'.heap[s_.2.2.1]?=some (.cells #[.slice none 0 0] 28 (0,0)))∧(w'.heap[s_.2.2.2]?=some (.cells #[.slice none 0 0] 28 (0,0)))∧(w.heap.size≤s_.2.2.1)∧(w.heap.size≤s_.2.2.1)∧(ai ≠ s_.2.2.1)∧(s_.2.2.1 ≠ ai)∧(s_.2.2.2 ≠ s_.2.2.1)∧(s_.2.2.1 ≠ s_.2.2.2)∧(w.heap.size≤s_.2.2.2)∧(w.heap.size≤s_.2.2.2)∧(ai ≠ s_.2.2.2)∧(s_.2.2.2 ≠ ai)∧(Below w.heap.size w w')) ?_ ?_
 rotate_left
 ·intro I3
  refine tq (σ:=Value × Value × Nat) 3 (ba 11 255) (fun s_=>[(16,s_.1),(19,s_.2.1),(7,.pointer (some ⟨s_.2.2,0,none⟩))]) (fun s_ w'=>(w'.cell? ⟨ai,0,none⟩=some (.int .i64 af)∧w'.cell? ⟨ai,1,none⟩=some (.slice aq aa.length ak))∧(Kd.R (Kd.int .i64) 2 w' w.heap.size (fun k_=>some k_ ≠ (s_.2.1:Value).ownBlock) s_.1 t102)∧(Kd.R (Kd.int .i64) 2 w' w.heap.size (fun k_=>some k_ ≠ (s_.1:Value).ownBlock) s_.2.1 t105)∧(w'.heap[ai]?=some (sO af aq aa ak 31))∧(w'.heap[s_.2.2]?=some (.cells #[.slice none 0 0] 28 (0,0)))∧(w.heap.size≤s_.2.2)∧(w.heap.size≤s_.2.2)∧(ai ≠ s_.2.2)∧(s_.2.2 ≠ ai)∧(Below w.heap.size w w')) ?_ ?_
  rotate_left
  ·intro OJ
   refine tq (σ:=Value × Value × Nat) 3 (ba 11 383) (fun s_=>[(16,s_.1),(19,s_.2.1),(8,.pointer (some ⟨s_.2.2,0,none⟩))]) (fun s_ w'=>(w'.cell? ⟨ai,0,none⟩=some (.int .i64 af)∧w'.cell? ⟨ai,1,none⟩=some (.slice aq aa.length ak))∧(Kd.R (Kd.int .i64) 2 w' w.heap.size (fun k_=>some k_ ≠ (s_.2.1:Value).ownBlock) s_.1 t102)∧(Kd.R (Kd.int .i64) 2 w' w.heap.size (fun k_=>some k_ ≠ (s_.1:Value).ownBlock) s_.2.1 t105)∧(w'.heap[ai]?=some (sO af aq aa ak 31))∧(w'.heap[s_.2.2]?=some (.cells #[.slice none 0 0] 28 (0,0)))∧(w.heap.size≤s_.2.2)∧(w.heap.size≤s_.2.2)∧(ai ≠ s_.2.2)∧(s_.2.2 ≠ ai)∧(Below w.heap.size w w')) ?_ ?_
   rotate_left
   ·intro OK
    refine tq (σ:=Value × Nat × Nat) 3 (ba 11 447) (fun s_=>[(16,s_.1),(7,.pointer (some ⟨s_.2.1,0,none⟩)),(8,.pointer (some ⟨s_.2.2,0,none⟩))]) (fun s_ w'=>(w'.cell? ⟨ai,0,none⟩=some (.int .i64 af)∧w'.cell? ⟨ai,1,none⟩=some (.slice aq aa.length ak))∧(Kd.R (Kd.int .i64) 2 w' w.heap.size (fun _=>True) s_.1 t102)∧(w'.heap[ai]?=some (sO af aq aa ak 31))∧(w'.heap[s_.2.1]?=some (.cells #[.slice none 0 0] 28 (0,0)))∧(w'.heap[s_.2.2]?=some (.cells #[.slice none 0 0] 28 (0,0)))∧(w.heap.size≤s_.2.1)∧(w.heap.size≤s_.2.1)∧(ai ≠ s_.2.1)∧(s_.2.1 ≠ ai)∧(s_.2.2 ≠ s_.2.1)∧(s_.2.1 ≠ s_.2.2)∧(w.heap.size≤s_.2.2)∧(w.heap.size≤s_.2.2)∧(ai ≠ s_.2.2)∧(s_.2.2 ≠ ai)∧(Below w.heap.size w w')) ?_ ?_
    rotate_left
    ·intro I4
     refine tq (σ:=Value × Value) 4 (ba 11 127) (fun s_=>[(16,s_.1),(19,s_.2)]) (fun s_ w'=>(w'.cell? ⟨ai,0,none⟩=some (.int .i64 af)∧w'.cell? ⟨ai,1,none⟩=some (.slice aq aa.length ak))∧(Kd.R (Kd.int .i64) 2 w' w.heap.size (fun k_=>some k_ ≠ (s_.2:Value).ownBlock) s_.1 t102)∧(Kd.R (Kd.int .i64) 2 w' w.heap.size (fun k_=>some k_ ≠ (s_.1:Value).ownBlock) s_.2 t105)∧(w'.heap[ai]?=some (sO af aq aa ak 31))∧(Below w.heap.size w w')) ?_ ?_
     rotate_left
     ·intro Y7
      refine tq (σ:=Value × Nat) 4 (ba 11 191) (fun s_=>[(16,s_.1),(7,.pointer (some ⟨s_.2,0,none⟩))]) (fun s_ w'=>(w'.cell? ⟨ai,0,none⟩=some (.int .i64 af)∧w'.cell? ⟨ai,1,none⟩=some (.slice aq aa.length ak))∧(Kd.R (Kd.int .i64) 2 w' w.heap.size (fun _=>True) s_.1 t102)∧(w'.heap[ai]?=some (sO af aq aa ak 31))∧(w'.heap[s_.2]?=some (.cells #[.slice none 0 0] 28 (0,0)))∧(w.heap.size≤s_.2)∧(w.heap.size≤s_.2)∧(ai ≠ s_.2)∧(s_.2 ≠ ai)∧(Below w.heap.size w w')) ?_ ?_
      rotate_left
      ·intro OL
       refine tq (σ:=Value × Nat) 4 (ba 11 319) (fun s_=>[(16,s_.1),(8,.pointer (some ⟨s_.2,0,none⟩))]) (fun s_ w'=>(w'.cell? ⟨ai,0,none⟩=some (.int .i64 af)∧w'.cell? ⟨ai,1,none⟩=some (.slice aq aa.length ak))∧(Kd.R (Kd.int .i64) 2 w' w.heap.size (fun _=>True) s_.1 t102)∧(w'.heap[ai]?=some (sO af aq aa ak 31))∧(w'.heap[s_.2]?=some (.cells #[.slice none 0 0] 28 (0,0)))∧(w.heap.size≤s_.2)∧(w.heap.size≤s_.2)∧(ai ≠ s_.2)∧(s_.2 ≠ ai)∧(Below w.heap.size w w')) ?_ ?_
       rotate_left
       ·intro OM
        refine tq (σ:=Nat × Nat) 4 (ba 11 439) (fun s_=>[(7,.pointer (some ⟨s_.1,0,none⟩)),(8,.pointer (some ⟨s_.2,0,none⟩))]) (fun s_ w'=>(w'.cell? ⟨ai,0,none⟩=some (.int .i64 af)∧w'.cell? ⟨ai,1,none⟩=some (.slice aq aa.length ak))∧(w'.heap[ai]?=some (sO af aq aa ak 31))∧(w'.heap[s_.1]?=some (.cells #[.slice none 0 0] 28 (0,0)))∧(w'.heap[s_.2]?=some (.cells #[.slice none 0 0] 28 (0,0)))∧(w.heap.size≤s_.1)∧(w.heap.size≤s_.1)∧(ai ≠ s_.1)∧(s_.1 ≠ ai)∧(s_.2 ≠ s_.1)∧(s_.1 ≠ s_.2)∧(w.heap.size≤s_.2)∧(w.heap.size≤s_.2)∧(ai ≠ s_.2)∧(s_.2 ≠ ai)∧(Below w.heap.size w w')) ?_ ?_
        rotate_left
        ·intro OO
         refine tq (σ:=Value) 5 (ba 11 63) (fun s_=>[(16,s_)]) (fun s_ w'=>(w'.cell? ⟨ai,0,none⟩=some (.int .i64 af)∧w'.cell? ⟨ai,1,none⟩=some (.slice aq aa.length ak))∧(Kd.R (Kd.int .i64) 2 w' w.heap.size (fun _=>True) s_ t102)∧(w'.heap[ai]?=some (sO af aq aa ak 31))∧(Below w.heap.size w w')) ?_ ?_
         rotate_left
         ·intro Y6
          refine tq (σ:=Nat) 5 (ba 11 183) (fun s_=>[(7,.pointer (some ⟨s_,0,none⟩))]) (fun s_ w'=>(w'.cell? ⟨ai,0,none⟩=some (.int .i64 af)∧w'.cell? ⟨ai,1,none⟩=some (.slice aq aa.length ak))∧(w'.heap[ai]?=some (sO af aq aa ak 31))∧(w'.heap[s_]?=some (.cells #[.slice none 0 0] 28 (0,0)))∧(w.heap.size≤s_)∧(w.heap.size≤s_)∧(ai ≠ s_)∧(s_ ≠ ai)∧(Below w.heap.size w w')) ?_ ?_
          rotate_left
          ·intro Y8
           refine tq (σ:=Nat) 5 (ba 11 311) (fun s_=>[(8,.pointer (some ⟨s_,0,none⟩))]) (fun s_ w'=>(w'.cell? ⟨ai,0,none⟩=some (.int .i64 af)∧w'.cell? ⟨ai,1,none⟩=some (.slice aq aa.length ak))∧(w'.heap[ai]?=some (sO af aq aa ak 31))∧(w'.heap[s_]?=some (.cells #[.slice none 0 0] 28 (0,0)))∧(w.heap.size≤s_)∧(w.heap.size≤s_)∧(ai ≠ s_)∧(s_ ≠ ai)∧(Below w.heap.size w w')) ?_ ?_
           rotate_left
           ·intro Y9
            refine Sh (i:=3) (j:=7) (k:=8) (Ni:=some 16) (Nj:=some 7) (Nk:=some 8) (ba 11 63) (ba 11 183) (ba 11 311) rfl rfl rfl rfl rfl rfl (Si aA.out (by kernel_rfl)) (by decide) (by decide) (by decide) (fun K hK=>?_) (fun K hK=>?_) (fun K hK=>?_)
            ·skip
             refine lD Try.func183 (by kernel_rfl) rfl #[.agg #[.int .i64 af,.slice aq aa.length ak],.slice A1 l1.length c1,.int .i64 a2] (by rfl) rfl rfl gm ?_
             with_reducible refine (cm.calls k af _ _ aa _ _ l1 a2 t102 _ ?akn ?aT ?cn ?cw A4.out).mono ?_
             (case akn=>exact aC (Kd.bA bU.out HB.out))
             (case aT=>exact cG.out)
             (case cn=>exact aC (Kd.bA ek.out HB.out))
             (case cw=>exact jZ.out)
             rintro e w8 ⟨dx,rfl,ake,hb⟩
             refine ⟨_,rfl,?_⟩
             have bh:=k0 (Kd.dL ake (aU bl));replace ag:=k0 (akj (g:=ai) (o:=sO af aq aa ak 31) bk hb);replace HB:=k0 (aI bl hb)
             (try clear hb);(try clear ake)
             refine hK.out _ _ ⟨(av ag.out 0).trans rfl,(av ag.out 1).trans rfl⟩ (fun hHeld=>?_)
             clear hK K
             refine aky (a':=?_) ?_ ?_
             rotate_left;· show Act.put _ (some 16) _=_;simp only [Act.put,zI,zZ,zS,akx,cu];rfl
             exact aky (by first|(simp only [eH,Act.put,zI,zZ,zS];done)|(simp only [eH,Act.put,zI,zZ,zS];rfl)) (Y6 (dx) _ ⟨hHeld,(aR bh.out),bk,bl⟩)
            ·skip
             refine rD ?hg (N:=7) ?hd (cs:=#[.slice none 0 0]) (t:=28) ?hr ?_;(case hd=>rfl);(case hg=>rfl);(case hr=>first|(go_simp;done)|(go_simp;rfl))
             intro aZ hg w8 aK hb
             have cl:=k0 (aK);have jL:=k0 ((by rw [hg];exact (aU bl):w.heap.size≤aZ));have kf:=jL;replace HB:=k0 (aI bl hb);have gw:=k0 ((by rw [hg];exact Nat.ne_of_lt (cJ (g:=ai) (o:=sO af aq aa ak 31) bk):ai ≠ aZ));have iI:=k0 ((by rw [hg];exact Nat.ne_of_gt (cJ (g:=ai) (o:=sO af aq aa ak 31) bk):aZ ≠ ai));replace ag:=k0 (akj (g:=ai) (o:=sO af aq aa ak 31) bk hb)
             clear hb aK hg
             refine hK.out _ _ ⟨(av ag.out 0).trans rfl,(av ag.out 1).trans rfl⟩ (fun hHeld=>?_)
             clear hK K
             refine aky (a':=?_) ?_ ?_
             rotate_left;· show Act.put _ (some 7) _=_;simp only [Act.put,zI,zZ,zS,akx,cu];rfl
             exact aky (by first|(simp only [eH,Act.put,zI,zZ,zS];done)|(simp only [eH,Act.put,zI,zZ,zS];rfl)) (Y8 (aZ) _ ⟨hHeld,bk,bk,jL.out,kf.out,gw.out,iI.out,bl⟩)
            ·skip
             refine rD ?hg (N:=8) ?hd (cs:=#[.slice none 0 0]) (t:=28) ?hr ?_;(case hd=>rfl);(case hg=>rfl);(case hr=>first|(go_simp;done)|(go_simp;rfl))
             intro akq hg w8 aK hb
             have dy:=k0 (aK);have jM:=k0 ((by rw [hg];exact (aU bl):w.heap.size≤akq));have kg:=jM;replace HB:=k0 (aI bl hb);have akG:=k0 ((by rw [hg];exact Nat.ne_of_lt (cJ (g:=ai) (o:=sO af aq aa ak 31) bk):ai ≠ akq));have iU:=k0 ((by rw [hg];exact Nat.ne_of_gt (cJ (g:=ai) (o:=sO af aq aa ak 31) bk):akq ≠ ai));replace ag:=k0 (akj (g:=ai) (o:=sO af aq aa ak 31) bk hb)
             clear hb aK hg
             refine hK.out _ _ ⟨(av ag.out 0).trans rfl,(av ag.out 1).trans rfl⟩ (fun hHeld=>?_)
             clear hK K
             refine aky (a':=?_) ?_ ?_
             rotate_left;· show Act.put _ (some 8) _=_;simp only [Act.put,zI,zZ,zS,akx,cu];rfl
             exact aky (by first|(simp only [eH,Act.put,zI,zZ,zS];done)|(simp only [eH,Act.put,zI,zZ,zS];rfl)) (Y9 (akq) _ ⟨hHeld,bk,bk,jM.out,kg.out,akG.out,iU.out,bl⟩)
           ·skip
            rintro akq w9 ⟨lV,iN,fJ,akM,jn,j5,j6,j7⟩
            have akf:au (w9.heap[ai]?=some (sO af aq aa ak 31)):=⟨iN⟩
            have aD:au (w9.heap[akq]?=some (.cells #[.slice none 0 0] 28 (0,0))):=⟨fJ⟩
            have aJ:au (w.heap.size≤akq):=⟨akM⟩
            have aX:au (w.heap.size≤akq):=⟨jn⟩
            have a_:au (ai ≠ akq):=⟨j5⟩
            have akp:au (akq ≠ ai):=⟨j6⟩
            have bx:au (Below w.heap.size w w9):=⟨j7⟩
            clear ag
            clear HB
            clear iN fJ akM jn j5 j6 j7
            have ag:=akf
            have dy:=aD
            have jM:=aJ
            have kg:=aX
            have akG:=a_
            have iU:=akp
            have HB:=bx
            clear akf aD aJ aX a_ akp bx
            have hHeld:w9.cell? ⟨ai,0,none⟩=some (.int .i64 af)∧w9.cell? ⟨ai,1,none⟩=some (.slice aq aa.length ak):=lV
            refine aky (a':=?_) ?_ ?_
            rotate_left;· simp only [eH,Act.put,zI,zZ,zS];rfl
            refine DL (i:=3) (j:=7) (Ni:=some 16) (Nj:=some 7) (ba 11 319) (ba 11 439) rfl rfl rfl rfl (DM aA.out (by kernel_rfl)) (by decide) (by decide) (fun K hK=>?_) (fun K hK=>?_)
            ·skip
             refine lD Try.func183 (by kernel_rfl) rfl #[.agg #[.int .i64 af,.slice aq aa.length ak],.slice A1 l1.length c1,.int .i64 a2] (by rfl) rfl rfl gm ?_
             with_reducible refine (cm.calls k af _ _ aa _ _ l1 a2 t102 _ ?akn ?aT ?cn ?cw A4.out).mono ?_
             (case akn=>exact aC (Kd.bA bU.out HB.out))
             (case aT=>exact cG.out)
             (case cn=>exact aC (Kd.bA ek.out HB.out))
             (case cw=>exact jZ.out)
             rintro e fF ⟨dx,rfl,ake,hb⟩
             refine ⟨_,rfl,?_⟩
             have akf:=k0 (Kd.dL ake (aU bl))
             have aD:=k0 (akj (g:=ai) (o:=sO af aq aa ak 31) bk hb)
             have aJ:=k0 (akj (g:=akq) (o:=.cells #[.slice none 0 0] 28 (0,0)) bk hb)
             have aX:=k0 (aI bl hb)
             clear ag
             clear dy
             clear HB
             have bh:=akf
             have ag:=aD
             have dy:=aJ
             have HB:=aX
             clear akf aD aJ aX
             (try clear hb);(try clear ake)
             refine hK.out _ _ ⟨(av ag.out 0).trans rfl,(av ag.out 1).trans rfl⟩ (fun hHeld=>?_)
             clear hK K
             refine aky (a':=?_) ?_ ?_
             rotate_left;· show Act.put _ (some 16) _=_;simp only [Act.put,zI,zZ,zS,akx,cu];rfl
             exact aky (by first|(simp only [eH,Act.put,zI,zZ,zS];done)|(simp only [eH,Act.put,zI,zZ,zS];rfl)) (OM (dx,akq) _ ⟨hHeld,(aR bh.out),bk,bk,jM.out,kg.out,akG.out,iU.out,bl⟩)
            ·skip
             refine rD ?hg (N:=7) ?hd (cs:=#[.slice none 0 0]) (t:=28) ?hr ?_;(case hd=>rfl);(case hg=>rfl);(case hr=>first|(go_simp;done)|(go_simp;rfl))
             intro aZ hg fF aK hb
             have akf:=k0 (akj (g:=ai) (o:=sO af aq aa ak 31) bk hb)
             have aD:=k0 (akj (g:=akq) (o:=.cells #[.slice none 0 0] 28 (0,0)) bk hb)
             have aJ:=k0 (aI bl hb)
             have aX:=k0 (aK)
             have a_:=k0 ((by rw [hg];exact (aU bl):w.heap.size≤aZ))
             have akp:=k0 ((by rw [hg];exact (aU bl):w.heap.size≤aZ))
             have bx:=k0 ((by rw [hg];exact Nat.ne_of_lt (cJ (g:=ai) (o:=sO af aq aa ak 31) bk):ai ≠ aZ))
             have b9:=k0 ((by rw [hg];exact Nat.ne_of_gt (cJ (g:=ai) (o:=sO af aq aa ak 31) bk):aZ ≠ ai))
             have cL:=k0 ((by rw [hg];exact Nat.ne_of_lt (cJ (g:=akq) (o:=.cells #[.slice none 0 0] 28 (0,0)) bk):akq ≠ aZ))
             have akB:=k0 ((by rw [hg];exact Nat.ne_of_gt (cJ (g:=akq) (o:=.cells #[.slice none 0 0] 28 (0,0)) bk):aZ ≠ akq))
             clear ag
             clear dy
             clear HB
             have ag:=akf
             have dy:=aD
             have HB:=aJ
             have cl:=aX
             have jL:=a_
             have kf:=akp
             have gw:=bx
             have iI:=b9
             have jO:=cL
             have kk:=akB
             clear akf aD aJ aX a_ akp bx b9 cL akB
             clear hb aK hg
             refine hK.out _ _ ⟨(av ag.out 0).trans rfl,(av ag.out 1).trans rfl⟩ (fun hHeld=>?_)
             clear hK K
             refine aky (a':=?_) ?_ ?_
             rotate_left;· show Act.put _ (some 7) _=_;simp only [Act.put,zI,zZ,zS,akx,cu];rfl
             exact aky (by first|(simp only [eH,Act.put,zI,zZ,zS];done)|(simp only [eH,Act.put,zI,zZ,zS];rfl)) (OO (aZ,akq) _ ⟨hHeld,bk,bk,bk,jL.out,kf.out,gw.out,iI.out,jO.out,kk.out,jM.out,kg.out,akG.out,iU.out,bl⟩)
          ·skip
           rintro aZ w9 ⟨lV,iN,fJ,akM,jn,j5,j6,j7⟩
           have akf:au (w9.heap[ai]?=some (sO af aq aa ak 31)):=⟨iN⟩
           have aD:au (w9.heap[aZ]?=some (.cells #[.slice none 0 0] 28 (0,0))):=⟨fJ⟩
           have aJ:au (w.heap.size≤aZ):=⟨akM⟩
           have aX:au (w.heap.size≤aZ):=⟨jn⟩
           have a_:au (ai ≠ aZ):=⟨j5⟩
           have akp:au (aZ ≠ ai):=⟨j6⟩
           have bx:au (Below w.heap.size w w9):=⟨j7⟩
           clear ag
           clear HB
           clear iN fJ akM jn j5 j6 j7
           have ag:=akf
           have cl:=aD
           have jL:=aJ
           have kf:=aX
           have gw:=a_
           have iI:=akp
           have HB:=bx
           clear akf aD aJ aX a_ akp bx
           have hHeld:w9.cell? ⟨ai,0,none⟩=some (.int .i64 af)∧w9.cell? ⟨ai,1,none⟩=some (.slice aq aa.length ak):=lV
           refine aky (a':=?_) ?_ ?_
           rotate_left;· simp only [eH,Act.put,zI,zZ,zS];rfl
           refine DL (i:=3) (j:=8) (Ni:=some 16) (Nj:=some 8) (ba 11 191) (ba 11 439) rfl rfl rfl rfl (DM aA.out (by kernel_rfl)) (by decide) (by decide) (fun K hK=>?_) (fun K hK=>?_)
           ·skip
            refine lD Try.func183 (by kernel_rfl) rfl #[.agg #[.int .i64 af,.slice aq aa.length ak],.slice A1 l1.length c1,.int .i64 a2] (by rfl) rfl rfl gm ?_
            with_reducible refine (cm.calls k af _ _ aa _ _ l1 a2 t102 _ ?akn ?aT ?cn ?cw A4.out).mono ?_
            (case akn=>exact aC (Kd.bA bU.out HB.out))
            (case aT=>exact cG.out)
            (case cn=>exact aC (Kd.bA ek.out HB.out))
            (case cw=>exact jZ.out)
            rintro e fF ⟨dx,rfl,ake,hb⟩
            refine ⟨_,rfl,?_⟩
            have akf:=k0 (Kd.dL ake (aU bl))
            have aD:=k0 (akj (g:=ai) (o:=sO af aq aa ak 31) bk hb)
            have aJ:=k0 (akj (g:=aZ) (o:=.cells #[.slice none 0 0] 28 (0,0)) bk hb)
            have aX:=k0 (aI bl hb)
            clear ag
            clear cl
            clear HB
            have bh:=akf
            have ag:=aD
            have cl:=aJ
            have HB:=aX
            clear akf aD aJ aX
            (try clear hb);(try clear ake)
            refine hK.out _ _ ⟨(av ag.out 0).trans rfl,(av ag.out 1).trans rfl⟩ (fun hHeld=>?_)
            clear hK K
            refine aky (a':=?_) ?_ ?_
            rotate_left;· show Act.put _ (some 16) _=_;simp only [Act.put,zI,zZ,zS,akx,cu];rfl
            exact aky (by first|(simp only [eH,Act.put,zI,zZ,zS];done)|(simp only [eH,Act.put,zI,zZ,zS];rfl)) (OL (dx,aZ) _ ⟨hHeld,(aR bh.out),bk,bk,jL.out,kf.out,gw.out,iI.out,bl⟩)
           ·skip
            refine rD ?hg (N:=8) ?hd (cs:=#[.slice none 0 0]) (t:=28) ?hr ?_;(case hd=>rfl);(case hg=>rfl);(case hr=>first|(go_simp;done)|(go_simp;rfl))
            intro akq hg fF aK hb
            have akf:=k0 (akj (g:=ai) (o:=sO af aq aa ak 31) bk hb)
            have aD:=k0 (akj (g:=aZ) (o:=.cells #[.slice none 0 0] 28 (0,0)) bk hb)
            have aJ:=k0 (aI bl hb)
            have aX:=k0 (aK)
            have a_:=k0 ((by rw [hg];exact (aU bl):w.heap.size≤akq))
            have akp:=k0 ((by rw [hg];exact (aU bl):w.heap.size≤akq))
            have bx:=k0 ((by rw [hg];exact Nat.ne_of_lt (cJ (g:=ai) (o:=sO af aq aa ak 31) bk):ai ≠ akq))
            have b9:=k0 ((by rw [hg];exact Nat.ne_of_gt (cJ (g:=ai) (o:=sO af aq aa ak 31) bk):akq ≠ ai))
            have cL:=k0 ((by rw [hg];exact Nat.ne_of_lt (cJ (g:=aZ) (o:=.cells #[.slice none 0 0] 28 (0,0)) bk):aZ ≠ akq))
            have akB:=k0 ((by rw [hg];exact Nat.ne_of_gt (cJ (g:=aZ) (o:=.cells #[.slice none 0 0] 28 (0,0)) bk):akq ≠ aZ))
            clear ag
            clear cl
            clear HB
            have ag:=akf
            have cl:=aD
            have HB:=aJ
            have dy:=aX
            have jM:=a_
            have kg:=akp
            have akG:=bx
            have iU:=b9
            have kk:=cL
            have jO:=akB
            clear akf aD aJ aX a_ akp bx b9 cL akB
            clear hb aK hg
            refine hK.out _ _ ⟨(av ag.out 0).trans rfl,(av ag.out 1).trans rfl⟩ (fun hHeld=>?_)
            clear hK K
            refine aky (a':=?_) ?_ ?_
            rotate_left;· show Act.put _ (some 8) _=_;simp only [Act.put,zI,zZ,zS,akx,cu];rfl
            exact aky (by first|(simp only [eH,Act.put,zI,zZ,zS];done)|(simp only [eH,Act.put,zI,zZ,zS];rfl)) (OO (aZ,akq) _ ⟨hHeld,bk,bk,bk,jL.out,kf.out,gw.out,iI.out,jO.out,kk.out,jM.out,kg.out,akG.out,iU.out,bl⟩)
         ·skip
          rintro dx w9 ⟨lV,iN,fJ,akM⟩
          have akf:au (Kd.R (Kd.int .i64) 2 w9 w.heap.size (fun _=>True) dx t102):=⟨iN⟩
          have aD:au (w9.heap[ai]?=some (sO af aq aa ak 31)):=⟨fJ⟩
          have aJ:au (Below w.heap.size w w9):=⟨akM⟩
          clear ag
          clear HB
          clear iN fJ akM
          have bh:=akf
          have ag:=aD
          have HB:=aJ
          clear akf aD aJ
          have hHeld:w9.cell? ⟨ai,0,none⟩=some (.int .i64 af)∧w9.cell? ⟨ai,1,none⟩=some (.slice aq aa.length ak):=lV
          refine aky (a':=?_) ?_ ?_
          rotate_left;· simp only [eH,Act.put,zI,zZ,zS];rfl
          refine Sh (i:=6) (j:=7) (k:=8) (Ni:=some 19) (Nj:=some 7) (Nk:=some 8) (ba 11 127) (ba 11 191) (ba 11 319) rfl rfl rfl rfl rfl rfl (Si aA.out (by kernel_rfl)) (by decide) (by decide) (by decide) (fun K hK=>?_) (fun K hK=>?_) (fun K hK=>?_)
          ·skip
           refine lD Try.func184 (by kernel_rfl) rfl #[.agg #[.int .i64 af,.slice aq aa.length ak],.int .i64 a2] (by rfl) rfl rfl gm ?_
           with_reducible refine (cI.calls k af _ _ aa a2 t105 _ ?akn ?aT A5.out).mono ?_
           (case akn=>exact aC (Kd.bA bU.out HB.out))
           (case aT=>exact cG.out)
           rintro e fF ⟨fY,rfl,ake,hb⟩
           refine ⟨_,rfl,?_⟩
           have cN:=k0 (Kd.dL (Kd.dW ake (Kd.cE (aR bh.out))) (aU bl));replace bh:=k0 (Kd.dV (aR bh.out) (Kd.bW ake) hb);replace ag:=k0 (akj (g:=ai) (o:=sO af aq aa ak 31) bk hb);replace HB:=k0 (aI bl hb)
           (try clear hb);(try clear ake)
           refine hK.out _ _ ⟨(av ag.out 0).trans rfl,(av ag.out 1).trans rfl⟩ (fun hHeld=>?_)
           clear hK K
           refine aky (a':=?_) ?_ ?_
           rotate_left;· show Act.put _ (some 19) _=_;simp only [Act.put,zI,zZ,zS,akx,cu];rfl
           exact aky (by first|(simp only [eH,Act.put,zI,zZ,zS];done)|(simp only [eH,Act.put,zI,zZ,zS];rfl)) (Y7 (dx,fY) _ ⟨hHeld,(by (with_reducible repeat (first|apply Kd.bN|apply Kd.bQ|apply Kd.bn));exact Kd.bG bh.out (fun _ hk=>hk.2)),(by (with_reducible repeat (first|apply Kd.bN|apply Kd.bQ|apply Kd.bn));exact Kd.bG cN.out (fun _ hk=>hk.2)),bk,bl⟩)
          ·skip
           refine rD ?hg (N:=7) ?hd (cs:=#[.slice none 0 0]) (t:=28) ?hr ?_;(case hd=>rfl);(case hg=>rfl);(case hr=>first|(go_simp;done)|(go_simp;rfl))
           intro aZ hg fF aK hb
           replace bh:=k0 (Kd.di (aR bh.out) hb);have cl:=k0 (aK);have jL:=k0 ((by rw [hg];exact (aU bl):w.heap.size≤aZ));have kf:=jL;replace HB:=k0 (aI bl hb);have gw:=k0 ((by rw [hg];exact Nat.ne_of_lt (cJ (g:=ai) (o:=sO af aq aa ak 31) bk):ai ≠ aZ));have iI:=k0 ((by rw [hg];exact Nat.ne_of_gt (cJ (g:=ai) (o:=sO af aq aa ak 31) bk):aZ ≠ ai));replace ag:=k0 (akj (g:=ai) (o:=sO af aq aa ak 31) bk hb)
           clear hb aK hg
           refine hK.out _ _ ⟨(av ag.out 0).trans rfl,(av ag.out 1).trans rfl⟩ (fun hHeld=>?_)
           clear hK K
           refine aky (a':=?_) ?_ ?_
           rotate_left;· show Act.put _ (some 7) _=_;simp only [Act.put,zI,zZ,zS,akx,cu];rfl
           exact aky (by first|(simp only [eH,Act.put,zI,zZ,zS];done)|(simp only [eH,Act.put,zI,zZ,zS];rfl)) (OL (dx,aZ) _ ⟨hHeld,(aR bh.out),bk,bk,jL.out,kf.out,gw.out,iI.out,bl⟩)
          ·skip
           refine rD ?hg (N:=8) ?hd (cs:=#[.slice none 0 0]) (t:=28) ?hr ?_;(case hd=>rfl);(case hg=>rfl);(case hr=>first|(go_simp;done)|(go_simp;rfl))
           intro akq hg fF aK hb
           replace bh:=k0 (Kd.di (aR bh.out) hb);have dy:=k0 (aK);have jM:=k0 ((by rw [hg];exact (aU bl):w.heap.size≤akq));have kg:=jM;replace HB:=k0 (aI bl hb);have akG:=k0 ((by rw [hg];exact Nat.ne_of_lt (cJ (g:=ai) (o:=sO af aq aa ak 31) bk):ai ≠ akq));have iU:=k0 ((by rw [hg];exact Nat.ne_of_gt (cJ (g:=ai) (o:=sO af aq aa ak 31) bk):akq ≠ ai));replace ag:=k0 (akj (g:=ai) (o:=sO af aq aa ak 31) bk hb)
           clear hb aK hg
           refine hK.out _ _ ⟨(av ag.out 0).trans rfl,(av ag.out 1).trans rfl⟩ (fun hHeld=>?_)
           clear hK K
           refine aky (a':=?_) ?_ ?_
           rotate_left;· show Act.put _ (some 8) _=_;simp only [Act.put,zI,zZ,zS,akx,cu];rfl
           exact aky (by first|(simp only [eH,Act.put,zI,zZ,zS];done)|(simp only [eH,Act.put,zI,zZ,zS];rfl)) (OM (dx,akq) _ ⟨hHeld,(aR bh.out),bk,bk,jM.out,kg.out,akG.out,iU.out,bl⟩)
        ·skip
         rintro ⟨aZ,akq⟩ fF ⟨lV,iN,fJ,akM,jn,j5,j6,j7,mE,qc,wT,wP,wQ,wR,wS⟩
         have akf:au (fF.heap[ai]?=some (sO af aq aa ak 31)):=⟨iN⟩
         have aD:au (fF.heap[aZ]?=some (.cells #[.slice none 0 0] 28 (0,0))):=⟨fJ⟩
         have aJ:au (fF.heap[akq]?=some (.cells #[.slice none 0 0] 28 (0,0))):=⟨akM⟩
         have aX:au (w.heap.size≤aZ):=⟨jn⟩
         have a_:au (w.heap.size≤aZ):=⟨j5⟩
         have akp:au (ai ≠ aZ):=⟨j6⟩
         have bx:au (aZ ≠ ai):=⟨j7⟩
         have b9:au (akq ≠ aZ):=⟨mE⟩
         have cL:au (aZ ≠ akq):=⟨qc⟩
         have akB:au (w.heap.size≤akq):=⟨wT⟩
         have j9:au (w.heap.size≤akq):=⟨wP⟩
         have ox:au (ai ≠ akq):=⟨wQ⟩
         have tu:au (akq ≠ ai):=⟨wR⟩
         have tv:au (Below w.heap.size w fF):=⟨wS⟩
         clear ag
         clear HB
         clear iN fJ akM jn j5 j6 j7 mE qc wT wP wQ wR wS
         have ag:=akf
         have cl:=aD
         have dy:=aJ
         have jL:=aX
         have kf:=a_
         have gw:=akp
         have iI:=bx
         have jO:=b9
         have kk:=cL
         have jM:=akB
         have kg:=j9
         have akG:=ox
         have iU:=tu
         have HB:=tv
         clear akf aD aJ aX a_ akp bx b9 cL akB j9 ox tu tv
         have hHeld:fF.cell? ⟨ai,0,none⟩=some (.int .i64 af)∧fF.cell? ⟨ai,1,none⟩=some (.slice aq aa.length ak):=lV
         refine aky (a':=?_) ?_ ?_
         rotate_left;· simp only [eH,Act.put,zI,zZ,zS];rfl
         refine lY (i:=3) (N:=some 16) (ba 11 447) rfl rfl (kF aA.out (by kernel_rfl)) (by decide) (fun K hK=>?_)
         refine lD Try.func183 (by kernel_rfl) rfl #[.agg #[.int .i64 af,.slice aq aa.length ak],.slice A1 l1.length c1,.int .i64 a2] (by rfl) rfl rfl gm ?_
         with_reducible refine (cm.calls k af _ _ aa _ _ l1 a2 t102 _ ?akn ?aT ?cn ?cw A4.out).mono ?_
         (case akn=>exact aC (Kd.bA bU.out HB.out))
         (case aT=>exact cG.out)
         (case cn=>exact aC (Kd.bA ek.out HB.out))
         (case cw=>exact jZ.out)
         rintro e akC ⟨dx,rfl,ake,hb⟩
         refine ⟨_,rfl,?_⟩
         have akf:=k0 (Kd.dL ake (aU bl))
         have aD:=k0 (akj (g:=ai) (o:=sO af aq aa ak 31) bk hb)
         have aJ:=k0 (akj (g:=aZ) (o:=.cells #[.slice none 0 0] 28 (0,0)) bk hb)
         have aX:=k0 (akj (g:=akq) (o:=.cells #[.slice none 0 0] 28 (0,0)) bk hb)
         have a_:=k0 (aI bl hb)
         clear ag
         clear cl
         clear dy
         clear HB
         have bh:=akf
         have ag:=aD
         have cl:=aJ
         have dy:=aX
         have HB:=a_
         clear akf aD aJ aX a_
         (try clear hb);(try clear ake)
         refine hK.out _ _ ⟨(av ag.out 0).trans rfl,(av ag.out 1).trans rfl⟩ (fun hHeld=>?_)
         clear hK K
         refine aky (a':=?_) ?_ ?_
         rotate_left;· show Act.put _ (some 16) _=_;simp only [Act.put,zI,zZ,zS,akx,cu];rfl
         exact aky (by first|(simp only [eH,Act.put,zI,zZ,zS];done)|(simp only [eH,Act.put,zI,zZ,zS];rfl)) (I4 (dx,aZ,akq) _ ⟨hHeld,(aR bh.out),bk,bk,bk,jL.out,kf.out,gw.out,iI.out,jO.out,kk.out,jM.out,kg.out,akG.out,iU.out,bl⟩)
       ·skip
        rintro ⟨dx,akq⟩ fF ⟨lV,iN,fJ,akM,jn,j5,j6,j7,mE⟩
        have akf:au (Kd.R (Kd.int .i64) 2 fF w.heap.size (fun _=>True) dx t102):=⟨iN⟩
        have aD:au (fF.heap[ai]?=some (sO af aq aa ak 31)):=⟨fJ⟩
        have aJ:au (fF.heap[akq]?=some (.cells #[.slice none 0 0] 28 (0,0))):=⟨akM⟩
        have aX:au (w.heap.size≤akq):=⟨jn⟩
        have a_:au (w.heap.size≤akq):=⟨j5⟩
        have akp:au (ai ≠ akq):=⟨j6⟩
        have bx:au (akq ≠ ai):=⟨j7⟩
        have b9:au (Below w.heap.size w fF):=⟨mE⟩
        clear ag
        clear HB
        clear iN fJ akM jn j5 j6 j7 mE
        have bh:=akf
        have ag:=aD
        have dy:=aJ
        have jM:=aX
        have kg:=a_
        have akG:=akp
        have iU:=bx
        have HB:=b9
        clear akf aD aJ aX a_ akp bx b9
        have hHeld:fF.cell? ⟨ai,0,none⟩=some (.int .i64 af)∧fF.cell? ⟨ai,1,none⟩=some (.slice aq aa.length ak):=lV
        refine aky (a':=?_) ?_ ?_
        rotate_left;· simp only [eH,Act.put,zI,zZ,zS];rfl
        refine DL (i:=6) (j:=7) (Ni:=some 19) (Nj:=some 7) (ba 11 383) (ba 11 447) rfl rfl rfl rfl (DM aA.out (by kernel_rfl)) (by decide) (by decide) (fun K hK=>?_) (fun K hK=>?_)
        ·skip
         refine lD Try.func184 (by kernel_rfl) rfl #[.agg #[.int .i64 af,.slice aq aa.length ak],.int .i64 a2] (by rfl) rfl rfl gm ?_
         with_reducible refine (cI.calls k af _ _ aa a2 t105 _ ?akn ?aT A5.out).mono ?_
         (case akn=>exact aC (Kd.bA bU.out HB.out))
         (case aT=>exact cG.out)
         rintro e akC ⟨fY,rfl,ake,hb⟩
         refine ⟨_,rfl,?_⟩
         have akf:=k0 (Kd.dV (aR bh.out) (Kd.bW ake) hb)
         have aD:=k0 (Kd.dL (Kd.dW ake (Kd.cE (aR bh.out))) (aU bl))
         have aJ:=k0 (akj (g:=ai) (o:=sO af aq aa ak 31) bk hb)
         have aX:=k0 (akj (g:=akq) (o:=.cells #[.slice none 0 0] 28 (0,0)) bk hb)
         have a_:=k0 (aI bl hb)
         clear bh
         clear ag
         clear dy
         clear HB
         have bh:=akf
         have cN:=aD
         have ag:=aJ
         have dy:=aX
         have HB:=a_
         clear akf aD aJ aX a_
         (try clear hb);(try clear ake)
         refine hK.out _ _ ⟨(av ag.out 0).trans rfl,(av ag.out 1).trans rfl⟩ (fun hHeld=>?_)
         clear hK K
         refine aky (a':=?_) ?_ ?_
         rotate_left;· show Act.put _ (some 19) _=_;simp only [Act.put,zI,zZ,zS,akx,cu];rfl
         exact aky (by first|(simp only [eH,Act.put,zI,zZ,zS];done)|(simp only [eH,Act.put,zI,zZ,zS];rfl)) (OK (dx,fY,akq) _ ⟨hHeld,(by (with_reducible repeat (first|apply Kd.bN|apply Kd.bQ|apply Kd.bn));exact Kd.bG bh.out (fun _ hk=>hk.2)),(by (with_reducible repeat (first|apply Kd.bN|apply Kd.bQ|apply Kd.bn));exact Kd.bG cN.out (fun _ hk=>hk.2)),bk,bk,jM.out,kg.out,akG.out,iU.out,bl⟩)
        ·skip
         refine rD ?hg (N:=7) ?hd (cs:=#[.slice none 0 0]) (t:=28) ?hr ?_;(case hd=>rfl);(case hg=>rfl);(case hr=>first|(go_simp;done)|(go_simp;rfl))
         intro aZ hg akC aK hb
         have akf:=k0 (Kd.di (aR bh.out) hb)
         have aD:=k0 (akj (g:=ai) (o:=sO af aq aa ak 31) bk hb)
         have aJ:=k0 (akj (g:=akq) (o:=.cells #[.slice none 0 0] 28 (0,0)) bk hb)
         have aX:=k0 (aI bl hb)
         have a_:=k0 (aK)
         have akp:=k0 ((by rw [hg];exact (aU bl):w.heap.size≤aZ))
         have bx:=k0 ((by rw [hg];exact (aU bl):w.heap.size≤aZ))
         have b9:=k0 ((by rw [hg];exact Nat.ne_of_lt (cJ (g:=ai) (o:=sO af aq aa ak 31) bk):ai ≠ aZ))
         have cL:=k0 ((by rw [hg];exact Nat.ne_of_gt (cJ (g:=ai) (o:=sO af aq aa ak 31) bk):aZ ≠ ai))
         have akB:=k0 ((by rw [hg];exact Nat.ne_of_lt (cJ (g:=akq) (o:=.cells #[.slice none 0 0] 28 (0,0)) bk):akq ≠ aZ))
         have j9:=k0 ((by rw [hg];exact Nat.ne_of_gt (cJ (g:=akq) (o:=.cells #[.slice none 0 0] 28 (0,0)) bk):aZ ≠ akq))
         clear bh
         clear ag
         clear dy
         clear HB
         have bh:=akf
         have ag:=aD
         have dy:=aJ
         have HB:=aX
         have cl:=a_
         have jL:=akp
         have kf:=bx
         have gw:=b9
         have iI:=cL
         have jO:=akB
         have kk:=j9
         clear akf aD aJ aX a_ akp bx b9 cL akB j9
         clear hb aK hg
         refine hK.out _ _ ⟨(av ag.out 0).trans rfl,(av ag.out 1).trans rfl⟩ (fun hHeld=>?_)
         clear hK K
         refine aky (a':=?_) ?_ ?_
         rotate_left;· show Act.put _ (some 7) _=_;simp only [Act.put,zI,zZ,zS,akx,cu];rfl
         exact aky (by first|(simp only [eH,Act.put,zI,zZ,zS];done)|(simp only [eH,Act.put,zI,zZ,zS];rfl)) (I4 (dx,aZ,akq) _ ⟨hHeld,(aR bh.out),bk,bk,bk,jL.out,kf.out,gw.out,iI.out,jO.out,kk.out,jM.out,kg.out,akG.out,iU.out,bl⟩)
      ·skip
       rintro ⟨dx,aZ⟩ fF ⟨lV,iN,fJ,akM,jn,j5,j6,j7,mE⟩
       have akf:au (Kd.R (Kd.int .i64) 2 fF w.heap.size (fun _=>True) dx t102):=⟨iN⟩
       have aD:au (fF.heap[ai]?=some (sO af aq aa ak 31)):=⟨fJ⟩
       have aJ:au (fF.heap[aZ]?=some (.cells #[.slice none 0 0] 28 (0,0))):=⟨akM⟩
       have aX:au (w.heap.size≤aZ):=⟨jn⟩
       have a_:au (w.heap.size≤aZ):=⟨j5⟩
       have akp:au (ai ≠ aZ):=⟨j6⟩
       have bx:au (aZ ≠ ai):=⟨j7⟩
       have b9:au (Below w.heap.size w fF):=⟨mE⟩
       clear ag
       clear HB
       clear iN fJ akM jn j5 j6 j7 mE
       have bh:=akf
       have ag:=aD
       have cl:=aJ
       have jL:=aX
       have kf:=a_
       have gw:=akp
       have iI:=bx
       have HB:=b9
       clear akf aD aJ aX a_ akp bx b9
       have hHeld:fF.cell? ⟨ai,0,none⟩=some (.int .i64 af)∧fF.cell? ⟨ai,1,none⟩=some (.slice aq aa.length ak):=lV
       refine aky (a':=?_) ?_ ?_
       rotate_left;· simp only [eH,Act.put,zI,zZ,zS];rfl
       refine DL (i:=6) (j:=8) (Ni:=some 19) (Nj:=some 8) (ba 11 255) (ba 11 447) rfl rfl rfl rfl (DM aA.out (by kernel_rfl)) (by decide) (by decide) (fun K hK=>?_) (fun K hK=>?_)
       ·skip
        refine lD Try.func184 (by kernel_rfl) rfl #[.agg #[.int .i64 af,.slice aq aa.length ak],.int .i64 a2] (by rfl) rfl rfl gm ?_
        with_reducible refine (cI.calls k af _ _ aa a2 t105 _ ?akn ?aT A5.out).mono ?_
        (case akn=>exact aC (Kd.bA bU.out HB.out))
        (case aT=>exact cG.out)
        rintro e akC ⟨fY,rfl,ake,hb⟩
        refine ⟨_,rfl,?_⟩
        have akf:=k0 (Kd.dV (aR bh.out) (Kd.bW ake) hb)
        have aD:=k0 (Kd.dL (Kd.dW ake (Kd.cE (aR bh.out))) (aU bl))
        have aJ:=k0 (akj (g:=ai) (o:=sO af aq aa ak 31) bk hb)
        have aX:=k0 (akj (g:=aZ) (o:=.cells #[.slice none 0 0] 28 (0,0)) bk hb)
        have a_:=k0 (aI bl hb)
        clear bh
        clear ag
        clear cl
        clear HB
        have bh:=akf
        have cN:=aD
        have ag:=aJ
        have cl:=aX
        have HB:=a_
        clear akf aD aJ aX a_
        (try clear hb);(try clear ake)
        refine hK.out _ _ ⟨(av ag.out 0).trans rfl,(av ag.out 1).trans rfl⟩ (fun hHeld=>?_)
        clear hK K
        refine aky (a':=?_) ?_ ?_
        rotate_left;· show Act.put _ (some 19) _=_;simp only [Act.put,zI,zZ,zS,akx,cu];rfl
        exact aky (by first|(simp only [eH,Act.put,zI,zZ,zS];done)|(simp only [eH,Act.put,zI,zZ,zS];rfl)) (OJ (dx,fY,aZ) _ ⟨hHeld,(by (with_reducible repeat (first|apply Kd.bN|apply Kd.bQ|apply Kd.bn));exact Kd.bG bh.out (fun _ hk=>hk.2)),(by (with_reducible repeat (first|apply Kd.bN|apply Kd.bQ|apply Kd.bn));exact Kd.bG cN.out (fun _ hk=>hk.2)),bk,bk,jL.out,kf.out,gw.out,iI.out,bl⟩)
       ·skip
        refine rD ?hg (N:=8) ?hd (cs:=#[.slice none 0 0]) (t:=28) ?hr ?_;(case hd=>rfl);(case hg=>rfl);(case hr=>first|(go_simp;done)|(go_simp;rfl))
        intro akq hg akC aK hb
        have akf:=k0 (Kd.di (aR bh.out) hb)
        have aD:=k0 (akj (g:=ai) (o:=sO af aq aa ak 31) bk hb)
        have aJ:=k0 (akj (g:=aZ) (o:=.cells #[.slice none 0 0] 28 (0,0)) bk hb)
        have aX:=k0 (aI bl hb)
        have a_:=k0 (aK)
        have akp:=k0 ((by rw [hg];exact (aU bl):w.heap.size≤akq))
        have bx:=k0 ((by rw [hg];exact (aU bl):w.heap.size≤akq))
        have b9:=k0 ((by rw [hg];exact Nat.ne_of_lt (cJ (g:=ai) (o:=sO af aq aa ak 31) bk):ai ≠ akq))
        have cL:=k0 ((by rw [hg];exact Nat.ne_of_gt (cJ (g:=ai) (o:=sO af aq aa ak 31) bk):akq ≠ ai))
        have akB:=k0 ((by rw [hg];exact Nat.ne_of_lt (cJ (g:=aZ) (o:=.cells #[.slice none 0 0] 28 (0,0)) bk):aZ ≠ akq))
        have j9:=k0 ((by rw [hg];exact Nat.ne_of_gt (cJ (g:=aZ) (o:=.cells #[.slice none 0 0] 28 (0,0)) bk):akq ≠ aZ))
        clear bh
        clear ag
        clear cl
        clear HB
        have bh:=akf
        have ag:=aD
        have cl:=aJ
        have HB:=aX
        have dy:=a_
        have jM:=akp
        have kg:=bx
        have akG:=b9
        have iU:=cL
        have kk:=akB
        have jO:=j9
        clear akf aD aJ aX a_ akp bx b9 cL akB j9
        clear hb aK hg
        refine hK.out _ _ ⟨(av ag.out 0).trans rfl,(av ag.out 1).trans rfl⟩ (fun hHeld=>?_)
        clear hK K
        refine aky (a':=?_) ?_ ?_
        rotate_left;· show Act.put _ (some 8) _=_;simp only [Act.put,zI,zZ,zS,akx,cu];rfl
        exact aky (by first|(simp only [eH,Act.put,zI,zZ,zS];done)|(simp only [eH,Act.put,zI,zZ,zS];rfl)) (I4 (dx,aZ,akq) _ ⟨hHeld,(aR bh.out),bk,bk,bk,jL.out,kf.out,gw.out,iI.out,jO.out,kk.out,jM.out,kg.out,akG.out,iU.out,bl⟩)
     ·skip
      rintro ⟨dx,fY⟩ fF ⟨lV,iN,fJ,akM,jn⟩
      have akf:au (Kd.R (Kd.int .i64) 2 fF w.heap.size (fun k_=>some k_ ≠ (fY:Value).ownBlock) dx t102):=⟨iN⟩
      have aD:au (Kd.R (Kd.int .i64) 2 fF w.heap.size (fun k_=>some k_ ≠ (dx:Value).ownBlock) fY t105):=⟨fJ⟩
      have aJ:au (fF.heap[ai]?=some (sO af aq aa ak 31)):=⟨akM⟩
      have aX:au (Below w.heap.size w fF):=⟨jn⟩
      clear ag
      clear HB
      clear iN fJ akM jn
      have bh:=akf
      have cN:=aD
      have ag:=aJ
      have HB:=aX
      clear akf aD aJ aX
      have hHeld:fF.cell? ⟨ai,0,none⟩=some (.int .i64 af)∧fF.cell? ⟨ai,1,none⟩=some (.slice aq aa.length ak):=lV
      refine aky (a':=?_) ?_ ?_
      rotate_left;· simp only [eH,Act.put,zI,zZ,zS];rfl
      refine DL (i:=7) (j:=8) (Ni:=some 7) (Nj:=some 8) (ba 11 255) (ba 11 383) rfl rfl rfl rfl (DM aA.out (by kernel_rfl)) (by decide) (by decide) (fun K hK=>?_) (fun K hK=>?_)
      ·skip
       refine rD ?hg (N:=7) ?hd (cs:=#[.slice none 0 0]) (t:=28) ?hr ?_;(case hd=>rfl);(case hg=>rfl);(case hr=>first|(go_simp;done)|(go_simp;rfl))
       intro aZ hg akC aK hb
       replace bh:=k0 (Kd.di (aR bh.out) hb);replace cN:=k0 (Kd.di (aR cN.out) hb);have cl:=k0 (aK);have jL:=k0 ((by rw [hg];exact (aU bl):w.heap.size≤aZ));have kf:=jL;replace HB:=k0 (aI bl hb);have gw:=k0 ((by rw [hg];exact Nat.ne_of_lt (cJ (g:=ai) (o:=sO af aq aa ak 31) bk):ai ≠ aZ));have iI:=k0 ((by rw [hg];exact Nat.ne_of_gt (cJ (g:=ai) (o:=sO af aq aa ak 31) bk):aZ ≠ ai));replace ag:=k0 (akj (g:=ai) (o:=sO af aq aa ak 31) bk hb)
       clear hb aK hg
       refine hK.out _ _ ⟨(av ag.out 0).trans rfl,(av ag.out 1).trans rfl⟩ (fun hHeld=>?_)
       clear hK K
       refine aky (a':=?_) ?_ ?_
       rotate_left;· show Act.put _ (some 7) _=_;simp only [Act.put,zI,zZ,zS,akx,cu];rfl
       exact aky (by first|(simp only [eH,Act.put,zI,zZ,zS];done)|(simp only [eH,Act.put,zI,zZ,zS];rfl)) (OJ (dx,fY,aZ) _ ⟨hHeld,(aR bh.out),(aR cN.out),bk,bk,jL.out,kf.out,gw.out,iI.out,bl⟩)
      ·skip
       refine rD ?hg (N:=8) ?hd (cs:=#[.slice none 0 0]) (t:=28) ?hr ?_;(case hd=>rfl);(case hg=>rfl);(case hr=>first|(go_simp;done)|(go_simp;rfl))
       intro akq hg akC aK hb
       replace bh:=k0 (Kd.di (aR bh.out) hb);replace cN:=k0 (Kd.di (aR cN.out) hb);have dy:=k0 (aK);have jM:=k0 ((by rw [hg];exact (aU bl):w.heap.size≤akq));have kg:=jM;replace HB:=k0 (aI bl hb);have akG:=k0 ((by rw [hg];exact Nat.ne_of_lt (cJ (g:=ai) (o:=sO af aq aa ak 31) bk):ai ≠ akq));have iU:=k0 ((by rw [hg];exact Nat.ne_of_gt (cJ (g:=ai) (o:=sO af aq aa ak 31) bk):akq ≠ ai));replace ag:=k0 (akj (g:=ai) (o:=sO af aq aa ak 31) bk hb)
       clear hb aK hg
       refine hK.out _ _ ⟨(av ag.out 0).trans rfl,(av ag.out 1).trans rfl⟩ (fun hHeld=>?_)
       clear hK K
       refine aky (a':=?_) ?_ ?_
       rotate_left;· show Act.put _ (some 8) _=_;simp only [Act.put,zI,zZ,zS,akx,cu];rfl
       exact aky (by first|(simp only [eH,Act.put,zI,zZ,zS];done)|(simp only [eH,Act.put,zI,zZ,zS];rfl)) (OK (dx,fY,akq) _ ⟨hHeld,(aR bh.out),(aR cN.out),bk,bk,jM.out,kg.out,akG.out,iU.out,bl⟩)
    ·skip
     rintro ⟨dx,aZ,akq⟩ akC ⟨lV,iN,fJ,akM,jn,j5,j6,j7,mE,qc,wT,wP,wQ,wR,wS,B5⟩
     have akf:au (Kd.R (Kd.int .i64) 2 akC w.heap.size (fun _=>True) dx t102):=⟨iN⟩
     have aD:au (akC.heap[ai]?=some (sO af aq aa ak 31)):=⟨fJ⟩
     have aJ:au (akC.heap[aZ]?=some (.cells #[.slice none 0 0] 28 (0,0))):=⟨akM⟩
     have aX:au (akC.heap[akq]?=some (.cells #[.slice none 0 0] 28 (0,0))):=⟨jn⟩
     have a_:au (w.heap.size≤aZ):=⟨j5⟩
     have akp:au (w.heap.size≤aZ):=⟨j6⟩
     have bx:au (ai ≠ aZ):=⟨j7⟩
     have b9:au (aZ ≠ ai):=⟨mE⟩
     have cL:au (akq ≠ aZ):=⟨qc⟩
     have akB:au (aZ ≠ akq):=⟨wT⟩
     have j9:au (w.heap.size≤akq):=⟨wP⟩
     have ox:au (w.heap.size≤akq):=⟨wQ⟩
     have tu:au (ai ≠ akq):=⟨wR⟩
     have tv:au (akq ≠ ai):=⟨wS⟩
     have Du:au (Below w.heap.size w akC):=⟨B5⟩
     clear ag
     clear HB
     clear iN fJ akM jn j5 j6 j7 mE qc wT wP wQ wR wS B5
     have bh:=akf
     have ag:=aD
     have cl:=aJ
     have dy:=aX
     have jL:=a_
     have kf:=akp
     have gw:=bx
     have iI:=b9
     have jO:=cL
     have kk:=akB
     have jM:=j9
     have kg:=ox
     have akG:=tu
     have iU:=tv
     have HB:=Du
     clear akf aD aJ aX a_ akp bx b9 cL akB j9 ox tu tv Du
     have hHeld:akC.cell? ⟨ai,0,none⟩=some (.int .i64 af)∧akC.cell? ⟨ai,1,none⟩=some (.slice aq aa.length ak):=lV
     refine aky (a':=?_) ?_ ?_
     rotate_left;· simp only [eH,Act.put,zI,zZ,zS];rfl
     refine lY (i:=6) (N:=some 19) (ba 11 511) rfl rfl (kF aA.out (by kernel_rfl)) (by decide) (fun K hK=>?_)
     refine lD Try.func184 (by kernel_rfl) rfl #[.agg #[.int .i64 af,.slice aq aa.length ak],.int .i64 a2] (by rfl) rfl rfl gm ?_
     with_reducible refine (cI.calls k af _ _ aa a2 t105 _ ?akn ?aT A5.out).mono ?_
     (case akn=>exact aC (Kd.bA bU.out HB.out))
     (case aT=>exact cG.out)
     rintro e jb ⟨fY,rfl,ake,hb⟩
     refine ⟨_,rfl,?_⟩
     have akf:=k0 (Kd.dV (aR bh.out) (Kd.bW ake) hb)
     have aD:=k0 (Kd.dL (Kd.dW ake (Kd.cE (aR bh.out))) (aU bl))
     have aJ:=k0 (akj (g:=ai) (o:=sO af aq aa ak 31) bk hb)
     have aX:=k0 (akj (g:=aZ) (o:=.cells #[.slice none 0 0] 28 (0,0)) bk hb)
     have a_:=k0 (akj (g:=akq) (o:=.cells #[.slice none 0 0] 28 (0,0)) bk hb)
     have akp:=k0 (aI bl hb)
     clear bh
     clear ag
     clear cl
     clear dy
     clear HB
     have bh:=akf
     have cN:=aD
     have ag:=aJ
     have cl:=aX
     have dy:=a_
     have HB:=akp
     clear akf aD aJ aX a_ akp
     (try clear hb);(try clear ake)
     refine hK.out _ _ ⟨(av ag.out 0).trans rfl,(av ag.out 1).trans rfl⟩ (fun hHeld=>?_)
     clear hK K
     refine aky (a':=?_) ?_ ?_
     rotate_left;· show Act.put _ (some 19) _=_;simp only [Act.put,zI,zZ,zS,akx,cu];rfl
     exact aky (by first|(simp only [eH,Act.put,zI,zZ,zS];done)|(simp only [eH,Act.put,zI,zZ,zS];rfl)) (I3 (dx,fY,aZ,akq) _ ⟨hHeld,(by (with_reducible repeat (first|apply Kd.bN|apply Kd.bQ|apply Kd.bn));exact Kd.bG bh.out (fun _ hk=>hk.2)),(by (with_reducible repeat (first|apply Kd.bN|apply Kd.bQ|apply Kd.bn));exact Kd.bG cN.out (fun _ hk=>hk.2)),bk,bk,bk,jL.out,kf.out,gw.out,iI.out,jO.out,kk.out,jM.out,kg.out,akG.out,iU.out,bl⟩)
   ·skip
    rintro ⟨dx,fY,akq⟩ akC ⟨lV,iN,fJ,akM,jn,j5,j6,j7,mE,qc⟩
    have akf:au (Kd.R (Kd.int .i64) 2 akC w.heap.size (fun k_=>some k_ ≠ (fY:Value).ownBlock) dx t102):=⟨iN⟩
    have aD:au (Kd.R (Kd.int .i64) 2 akC w.heap.size (fun k_=>some k_ ≠ (dx:Value).ownBlock) fY t105):=⟨fJ⟩
    have aJ:au (akC.heap[ai]?=some (sO af aq aa ak 31)):=⟨akM⟩
    have aX:au (akC.heap[akq]?=some (.cells #[.slice none 0 0] 28 (0,0))):=⟨jn⟩
    have a_:au (w.heap.size≤akq):=⟨j5⟩
    have akp:au (w.heap.size≤akq):=⟨j6⟩
    have bx:au (ai ≠ akq):=⟨j7⟩
    have b9:au (akq ≠ ai):=⟨mE⟩
    have cL:au (Below w.heap.size w akC):=⟨qc⟩
    clear ag
    clear HB
    clear iN fJ akM jn j5 j6 j7 mE qc
    have bh:=akf
    have cN:=aD
    have ag:=aJ
    have dy:=aX
    have jM:=a_
    have kg:=akp
    have akG:=bx
    have iU:=b9
    have HB:=cL
    clear akf aD aJ aX a_ akp bx b9 cL
    have hHeld:akC.cell? ⟨ai,0,none⟩=some (.int .i64 af)∧akC.cell? ⟨ai,1,none⟩=some (.slice aq aa.length ak):=lV
    refine aky (a':=?_) ?_ ?_
    rotate_left;· simp only [eH,Act.put,zI,zZ,zS];rfl
    refine lY (i:=7) (N:=some 7) (ba 11 511) rfl rfl (kF aA.out (by kernel_rfl)) (by decide) (fun K hK=>?_)
    refine rD ?hg (N:=7) ?hd (cs:=#[.slice none 0 0]) (t:=28) ?hr ?_;(case hd=>rfl);(case hg=>rfl);(case hr=>first|(go_simp;done)|(go_simp;rfl))
    intro aZ hg jb aK hb
    have akf:=k0 (Kd.di (aR bh.out) hb)
    have aD:=k0 (Kd.di (aR cN.out) hb)
    have aJ:=k0 (akj (g:=ai) (o:=sO af aq aa ak 31) bk hb)
    have aX:=k0 (akj (g:=akq) (o:=.cells #[.slice none 0 0] 28 (0,0)) bk hb)
    have a_:=k0 (aI bl hb)
    have akp:=k0 (aK)
    have bx:=k0 ((by rw [hg];exact (aU bl):w.heap.size≤aZ))
    have b9:=k0 ((by rw [hg];exact (aU bl):w.heap.size≤aZ))
    have cL:=k0 ((by rw [hg];exact Nat.ne_of_lt (cJ (g:=ai) (o:=sO af aq aa ak 31) bk):ai ≠ aZ))
    have akB:=k0 ((by rw [hg];exact Nat.ne_of_gt (cJ (g:=ai) (o:=sO af aq aa ak 31) bk):aZ ≠ ai))
    have j9:=k0 ((by rw [hg];exact Nat.ne_of_lt (cJ (g:=akq) (o:=.cells #[.slice none 0 0] 28 (0,0)) bk):akq ≠ aZ))
    have ox:=k0 ((by rw [hg];exact Nat.ne_of_gt (cJ (g:=akq) (o:=.cells #[.slice none 0 0] 28 (0,0)) bk):aZ ≠ akq))
    clear bh
    clear cN
    clear ag
    clear dy
    clear HB
    have bh:=akf
    have cN:=aD
    have ag:=aJ
    have dy:=aX
    have HB:=a_
    have cl:=akp
    have jL:=bx
    have kf:=b9
    have gw:=cL
    have iI:=akB
    have jO:=j9
    have kk:=ox
    clear akf aD aJ aX a_ akp bx b9 cL akB j9 ox
    clear hb aK hg
    refine hK.out _ _ ⟨(av ag.out 0).trans rfl,(av ag.out 1).trans rfl⟩ (fun hHeld=>?_)
    clear hK K
    refine aky (a':=?_) ?_ ?_
    rotate_left;· show Act.put _ (some 7) _=_;simp only [Act.put,zI,zZ,zS,akx,cu];rfl
    exact aky (by first|(simp only [eH,Act.put,zI,zZ,zS];done)|(simp only [eH,Act.put,zI,zZ,zS];rfl)) (I3 (dx,fY,aZ,akq) _ ⟨hHeld,(aR bh.out),(aR cN.out),bk,bk,bk,jL.out,kf.out,gw.out,iI.out,jO.out,kk.out,jM.out,kg.out,akG.out,iU.out,bl⟩)
  ·skip
   rintro ⟨dx,fY,aZ⟩ akC ⟨lV,iN,fJ,akM,jn,j5,j6,j7,mE,qc⟩
   have akf:au (Kd.R (Kd.int .i64) 2 akC w.heap.size (fun k_=>some k_ ≠ (fY:Value).ownBlock) dx t102):=⟨iN⟩
   have aD:au (Kd.R (Kd.int .i64) 2 akC w.heap.size (fun k_=>some k_ ≠ (dx:Value).ownBlock) fY t105):=⟨fJ⟩
   have aJ:au (akC.heap[ai]?=some (sO af aq aa ak 31)):=⟨akM⟩
   have aX:au (akC.heap[aZ]?=some (.cells #[.slice none 0 0] 28 (0,0))):=⟨jn⟩
   have a_:au (w.heap.size≤aZ):=⟨j5⟩
   have akp:au (w.heap.size≤aZ):=⟨j6⟩
   have bx:au (ai ≠ aZ):=⟨j7⟩
   have b9:au (aZ ≠ ai):=⟨mE⟩
   have cL:au (Below w.heap.size w akC):=⟨qc⟩
   clear ag
   clear HB
   clear iN fJ akM jn j5 j6 j7 mE qc
   have bh:=akf
   have cN:=aD
   have ag:=aJ
   have cl:=aX
   have jL:=a_
   have kf:=akp
   have gw:=bx
   have iI:=b9
   have HB:=cL
   clear akf aD aJ aX a_ akp bx b9 cL
   have hHeld:akC.cell? ⟨ai,0,none⟩=some (.int .i64 af)∧akC.cell? ⟨ai,1,none⟩=some (.slice aq aa.length ak):=lV
   refine aky (a':=?_) ?_ ?_
   rotate_left;· simp only [eH,Act.put,zI,zZ,zS];rfl
   refine lY (i:=8) (N:=some 8) (ba 11 511) rfl rfl (kF aA.out (by kernel_rfl)) (by decide) (fun K hK=>?_)
   refine rD ?hg (N:=8) ?hd (cs:=#[.slice none 0 0]) (t:=28) ?hr ?_;(case hd=>rfl);(case hg=>rfl);(case hr=>first|(go_simp;done)|(go_simp;rfl))
   intro akq hg jb aK hb
   have akf:=k0 (Kd.di (aR bh.out) hb)
   have aD:=k0 (Kd.di (aR cN.out) hb)
   have aJ:=k0 (akj (g:=ai) (o:=sO af aq aa ak 31) bk hb)
   have aX:=k0 (akj (g:=aZ) (o:=.cells #[.slice none 0 0] 28 (0,0)) bk hb)
   have a_:=k0 (aI bl hb)
   have akp:=k0 (aK)
   have bx:=k0 ((by rw [hg];exact (aU bl):w.heap.size≤akq))
   have b9:=k0 ((by rw [hg];exact (aU bl):w.heap.size≤akq))
   have cL:=k0 ((by rw [hg];exact Nat.ne_of_lt (cJ (g:=ai) (o:=sO af aq aa ak 31) bk):ai ≠ akq))
   have akB:=k0 ((by rw [hg];exact Nat.ne_of_gt (cJ (g:=ai) (o:=sO af aq aa ak 31) bk):akq ≠ ai))
   have j9:=k0 ((by rw [hg];exact Nat.ne_of_lt (cJ (g:=aZ) (o:=.cells #[.slice none 0 0] 28 (0,0)) bk):aZ ≠ akq))
   have ox:=k0 ((by rw [hg];exact Nat.ne_of_gt (cJ (g:=aZ) (o:=.cells #[.slice none 0 0] 28 (0,0)) bk):akq ≠ aZ))
   clear bh
   clear cN
   clear ag
   clear cl
   clear HB
   have bh:=akf
   have cN:=aD
   have ag:=aJ
   have cl:=aX
   have HB:=a_
   have dy:=akp
   have jM:=bx
   have kg:=b9
   have akG:=cL
   have iU:=akB
   have kk:=j9
   have jO:=ox
   clear akf aD aJ aX a_ akp bx b9 cL akB j9 ox
   clear hb aK hg
   refine hK.out _ _ ⟨(av ag.out 0).trans rfl,(av ag.out 1).trans rfl⟩ (fun hHeld=>?_)
   clear hK K
   refine aky (a':=?_) ?_ ?_
   rotate_left;· show Act.put _ (some 8) _=_;simp only [Act.put,zI,zZ,zS,akx,cu];rfl
   exact aky (by first|(simp only [eH,Act.put,zI,zZ,zS];done)|(simp only [eH,Act.put,zI,zZ,zS];rfl)) (I3 (dx,fY,aZ,akq) _ ⟨hHeld,(aR bh.out),(aR cN.out),bk,bk,bk,jL.out,kf.out,gw.out,iI.out,jO.out,kk.out,jM.out,kg.out,akG.out,iU.out,bl⟩)
 rintro ⟨dx,fY,aZ,akq⟩ jb ⟨lV,iN,fJ,akM,jn,j5,j6,j7,mE,qc,wT,wP,wQ,wR,wS,B5,OD⟩
 have akf:au (Kd.R (Kd.int .i64) 2 jb w.heap.size (fun k_=>some k_ ≠ (fY:Value).ownBlock) dx t102):=⟨iN⟩
 have aD:au (Kd.R (Kd.int .i64) 2 jb w.heap.size (fun k_=>some k_ ≠ (dx:Value).ownBlock) fY t105):=⟨fJ⟩
 have aJ:au (jb.heap[ai]?=some (sO af aq aa ak 31)):=⟨akM⟩
 have aX:au (jb.heap[aZ]?=some (.cells #[.slice none 0 0] 28 (0,0))):=⟨jn⟩
 have a_:au (jb.heap[akq]?=some (.cells #[.slice none 0 0] 28 (0,0))):=⟨j5⟩
 have akp:au (w.heap.size≤aZ):=⟨j6⟩
 have bx:au (w.heap.size≤aZ):=⟨j7⟩
 have b9:au (ai ≠ aZ):=⟨mE⟩
 have cL:au (aZ ≠ ai):=⟨qc⟩
 have akB:au (akq ≠ aZ):=⟨wT⟩
 have j9:au (aZ ≠ akq):=⟨wP⟩
 have ox:au (w.heap.size≤akq):=⟨wQ⟩
 have tu:au (w.heap.size≤akq):=⟨wR⟩
 have tv:au (ai ≠ akq):=⟨wS⟩
 have Du:au (akq ≠ ai):=⟨B5⟩
 have RK:au (Below w.heap.size w jb):=⟨OD⟩
 clear ag
 clear HB
 clear iN fJ akM jn j5 j6 j7 mE qc wT wP wQ wR wS B5 OD
 have bh:=akf
 have cN:=aD
 have ag:=aJ
 have cl:=aX
 have dy:=a_
 have jL:=akp
 have kf:=bx
 have gw:=b9
 have iI:=cL
 have jO:=akB
 have kk:=j9
 have jM:=ox
 have kg:=tu
 have akG:=tv
 have iU:=Du
 have HB:=RK
 clear akf aD aJ aX a_ akp bx b9 cL akB j9 ox tu tv Du RK
 have hHeld:jb.cell? ⟨ai,0,none⟩=some (.int .i64 af)∧jb.cell? ⟨ai,1,none⟩=some (.slice aq aa.length ak):=lV
 obtain ⟨r4,sw,Ak⟩:=Kd.eK bh.out
 (first|subst Ak|(injection Ak with akL k9 gU;have akW:=akL.symm;have akX:=gU.symm;clear akL k9 gU;subst akW;subst akX))
 obtain ⟨fV,eZ,BM⟩:=Kd.eK cN.out
 (first|subst BM|(injection BM with akL k9 gU;have akW:=akL.symm;have akX:=gU.symm;clear akL k9 gU;subst akW;subst akX))
 refine aky (a':=?_) ?_ ?_
 rotate_left;· simp only [eH,Act.put,zI,zZ,zS];rfl
 refine lY (i:=9) (N:=none) (ba 11 1023) rfl rfl (kF aA.out (by kernel_rfl)) (by decide) (fun K hK=>?_)
 have ai_:jb.cell? ⟨aZ,0,none⟩=some (.slice none 0 0):=(av cl.out 0).trans rfl
 have ahh:=aH cl.out 0
 have ai7:=gw.out
 have ai8:=jO.out
 have ahS:=iI.out
 have ahT:=kk.out
 refine pP (w1:=?_) (by rfl) rfl ?_ ?_
 rotate_left;· go_simp;rfl
 refine hK.out _ _ ⟨((cell_far (p:=⟨aZ,_,none⟩) gw.out _).trans (hHeld.1)),((cell_far (p:=⟨aZ,_,none⟩) gw.out _).trans (hHeld.2))⟩ (fun hHeld=>?_)
 clear hK K
 refine lY (i:=10) (N:=none) (ba 11 2047) rfl rfl (kF aA.out (by kernel_rfl)) (by decide) (fun K hK=>?_)
 have aja:jb.cell? ⟨akq,0,none⟩=some (.slice none 0 0):=(av dy.out 0).trans rfl
 have ahi:=aH dy.out 0
 have ai9:=akG.out
 have ai':=kk.out
 have ahU:=iU.out
 have ahV:=jO.out
 refine pP (w1:=?_) (by rfl) rfl ?_ ?_
 rotate_left;· go_simp;rfl
 refine hK.out _ _ ⟨((cell_far (p:=⟨akq,_,none⟩) akG.out _).trans (hHeld.1)),((cell_far (p:=⟨akq,_,none⟩) akG.out _).trans (hHeld.2))⟩ (fun hHeld=>?_)
 clear hK K
 refine lC (p_ aA.out (by kernel_rfl)) ?_
 have ah1:=gw.out
 have aiB:=iI.out
 have aba:=akG.out
 have abd:=iU.out
 have sI:jb.cell? ⟨ai,0,none⟩=some (.int .i64 af):=(av ag.out 0).trans rfl
 have yy:jb.cell? ⟨ai,1,none⟩=some (.slice aq aa.length ak):=(av ag.out 1).trans rfl
 have alg:=aH ag.out 0
 have yD:=aH ag.out 1
 try go_wp2_with (first|((with_reducible refine cj (N:=9) rfl ?_);refine dJ ?hg (N:=9) ?hd (cs:=#[.int .i64 0]) (t:=2) ?hr ?_;(case hd=>rfl);(case hg=>rfl);(case hr=>first|(go_simp;done)|(go_simp;rfl));intro pE hg tI aK hb;replace bh:=k0 (Kd.di (Kd.El (by (with_reducible repeat (first|apply Kd.bN|apply Kd.bQ|apply Kd.bn));exact (Kd.bG (Kd.bG (Kd.iJ (p:=⟨akq,0,none⟩) (Kd.iJ (p:=⟨aZ,0,none⟩) (Kd.ji (Kd.ji bh.out cl.out (by decide)) dy.out (by decide)) (fun _ hk=>hk.1.2) (.slice r4 t102.length sw)) (fun _ hk=>hk.2) (.slice fV t105.length eZ)) (fun _ h_=>h_.1)) (fun _ h_=>h_.1))) pE (Nat.le_of_eq hg.symm)) hb);replace cN:=k0 (Kd.di (Kd.El (by (with_reducible repeat (first|apply Kd.bN|apply Kd.bQ|apply Kd.bn));exact (Kd.bG (Kd.bG (Kd.iJ (p:=⟨akq,0,none⟩) (Kd.iJ (p:=⟨aZ,0,none⟩) (Kd.ji (Kd.ji cN.out cl.out (by decide)) dy.out (by decide)) (fun _ hk=>hk.1.2) (.slice r4 t102.length sw)) (fun _ hk=>hk.2) (.slice fV t105.length eZ)) (fun _ h_=>h_.1)) (fun _ h_=>h_.1))) pE (Nat.le_of_eq hg.symm)) hb);have fD:=k0 (aK);have Me:=k0 ((by rw [hg];exact (aU bl):w.heap.size≤pE));have GI:=Me;replace HB:=k0 (aI bl hb);have uS:=k0 ((by rw [hg];exact Nat.ne_of_lt (cJ (g:=ai) (o:=sO af aq aa ak 31) (by (with_reducible repeat (first|refine ee ?_ _|refine ct ?_|refine dX ?_ _));refine fX ?_ akG.out _;(with_reducible repeat (first|refine ee ?_ _|refine ct ?_|refine dX ?_ _));refine fX ?_ gw.out _;exact bk)):ai ≠ pE));have wu:=k0 ((by rw [hg];exact Nat.ne_of_gt (cJ (g:=ai) (o:=sO af aq aa ak 31) (by (with_reducible repeat (first|refine ee ?_ _|refine ct ?_|refine dX ?_ _));refine fX ?_ akG.out _;(with_reducible repeat (first|refine ee ?_ _|refine ct ?_|refine dX ?_ _));refine fX ?_ gw.out _;exact bk)):pE ≠ ai));replace ag:=k0 (akj (g:=ai) (o:=sO af aq aa ak 31) (by (with_reducible repeat (first|refine ee ?_ _|refine ct ?_|refine dX ?_ _));refine fX ?_ akG.out _;(with_reducible repeat (first|refine ee ?_ _|refine ct ?_|refine dX ?_ _));refine fX ?_ gw.out _;exact bk) hb);have tT:=k0 ((by rw [hg];exact Nat.ne_of_lt (cJ (g:=aZ) (o:=.cells #[.slice r4 t102.length sw] 28 (0,0)) (by (with_reducible repeat (first|refine ee ?_ _|refine ct ?_|refine dX ?_ _));refine fX ?_ kk.out _;(with_reducible repeat (first|refine ee ?_ _|refine ct ?_|refine dX ?_ _));refine nG (cs:=#[.slice none 0 0]) ?_ 0 _ rfl;exact bk)):aZ ≠ pE));have rA:=k0 ((by rw [hg];exact Nat.ne_of_gt (cJ (g:=aZ) (o:=.cells #[.slice r4 t102.length sw] 28 (0,0)) (by (with_reducible repeat (first|refine ee ?_ _|refine ct ?_|refine dX ?_ _));refine fX ?_ kk.out _;(with_reducible repeat (first|refine ee ?_ _|refine ct ?_|refine dX ?_ _));refine nG (cs:=#[.slice none 0 0]) ?_ 0 _ rfl;exact bk)):pE ≠ aZ));replace cl:=k0 (akj (g:=aZ) (o:=.cells #[.slice r4 t102.length sw] 28 (0,0)) (by (with_reducible repeat (first|refine ee ?_ _|refine ct ?_|refine dX ?_ _));refine fX ?_ kk.out _;(with_reducible repeat (first|refine ee ?_ _|refine ct ?_|refine dX ?_ _));refine nG (cs:=#[.slice none 0 0]) ?_ 0 _ rfl;exact bk) hb);have xS:=k0 ((by rw [hg];exact Nat.ne_of_lt (cJ (g:=akq) (o:=.cells #[.slice fV t105.length eZ] 28 (0,0)) (by (with_reducible repeat (first|refine ee ?_ _|refine ct ?_|refine dX ?_ _));refine nG (cs:=#[.slice none 0 0]) ?_ 0 _ rfl;(with_reducible repeat (first|refine ee ?_ _|refine ct ?_|refine dX ?_ _));refine fX ?_ jO.out _;exact bk)):akq ≠ pE));have zL:=k0 ((by rw [hg];exact Nat.ne_of_gt (cJ (g:=akq) (o:=.cells #[.slice fV t105.length eZ] 28 (0,0)) (by (with_reducible repeat (first|refine ee ?_ _|refine ct ?_|refine dX ?_ _));refine nG (cs:=#[.slice none 0 0]) ?_ 0 _ rfl;(with_reducible repeat (first|refine ee ?_ _|refine ct ?_|refine dX ?_ _));refine fX ?_ jO.out _;exact bk)):pE ≠ akq));replace dy:=k0 (akj (g:=akq) (o:=.cells #[.slice fV t105.length eZ] 28 (0,0)) (by (with_reducible repeat (first|refine ee ?_ _|refine ct ?_|refine dX ?_ _));refine nG (cs:=#[.slice none 0 0]) ?_ 0 _ rfl;(with_reducible repeat (first|refine ee ?_ _|refine ct ?_|refine dX ?_ _));refine fX ?_ jO.out _;exact bk) hb);clear hb aK hg;have ah2:=wu.out;have aiC:=uS.out;have ah3:=rA.out;have aiD:=tT.out;have ah4:=zL.out;have aiE:=xS.out;have Ck:tI.cell? ⟨pE,0,none⟩=some (.int .i64 0):=(av fD.out 0).trans rfl;have Cs:=aH fD.out 0))
 go_loopg [9] k (fun kq v9 w'=>∃ (cr:List Int) (qw:List Int) (nR:Int) (u109000:Value) (akA:Nat),v9=.pointer (some ⟨akA,0,none⟩)∧au (w.heap.size≤akA)∧au (ai ≠ akA)∧au (akA ≠ ai)∧au (aZ ≠ akA)∧au (akA ≠ aZ)∧au (akq ≠ akA)∧au (akA ≠ akq)∧au (akr.l0 kq a2 cr af aa qw nR=some r)∧au (kq≤k)∧au (Kd.R (Kd.int .i64) 2 w' w.heap.size (fun k_=>some k_ ≠ (u109000:Value).ownBlock∧k_ ≠ akA) (.slice fV t105.length eZ) cr)∧au (Kd.R (Kd.int .i64) 2 w' w.heap.size (fun k_=>some k_ ≠ ((.slice fV t105.length eZ):Value).ownBlock∧k_ ≠ akA) u109000 qw)∧au (w'.heap[ai]?=some (sO af aq aa ak 31))∧au (w'.heap[aZ]?=some (.cells #[u109000] 28 (0,0)))∧au (w'.heap[akq]?=some (.cells #[(.slice fV t105.length eZ)] 28 (0,0)))∧au (w'.heap[akA]?=some (.cells #[.int .i64 nR] 2 (0,0)))∧au (Below w.heap.size w w'))
 case atStart=>exact ⟨(t105),(t102),(af),(.slice r4 t102.length sw),pE,rs,⟨GI.out⟩,uS,wu,tT,rA,xS,zL,H',⟨Nat.le_refl _⟩,⟨aR (Kd.bG (Kd.iJ (p:=⟨pE,0,none⟩) (Kd.bG cN.out (fun k_ hk=>(⟨hk,hk.2⟩:_∧k_ ≠ pE))) (fun _ hk=>hk.2) (.int .i64 af)) (fun _ hk=>⟨hk.1.1,hk.1.2⟩))⟩,⟨aR (Kd.bG (Kd.iJ (p:=⟨pE,0,none⟩) (Kd.bG bh.out (fun k_ hk=>(⟨hk,hk.2⟩:_∧k_ ≠ pE))) (fun _ hk=>hk.2) (.int .i64 af)) (fun _ hk=>⟨hk.1.1,hk.1.2⟩))⟩,⟨by (with_reducible repeat (first|refine ee ?_ _|refine ct ?_|refine dX ?_ _));refine fX ?_ uS.out _;exact bk⟩,⟨by (with_reducible repeat (first|refine ee ?_ _|refine ct ?_|refine dX ?_ _));refine fX ?_ tT.out _;exact bk⟩,⟨by (with_reducible repeat (first|refine ee ?_ _|refine ct ?_|refine dX ?_ _));refine fX ?_ xS.out _;exact bk⟩,⟨by (with_reducible repeat (first|refine ee ?_ _|refine ct ?_|refine dX ?_ _));refine nG (cs:=#[.int .i64 0]) ?_ 0 _ rfl;exact bk⟩,⟨bl⟩⟩
 case round =>
  clear H'
  (try clear sI);(try clear yy);(try clear Ck);(try clear alg);(try clear yD);(try clear Cs)
  obtain ⟨cr,qw,nR,u109000,akA,rfl,GI,uS,wu,tT,rA,xS,zL,HA,akl,eS,cR,ag,cl,dy,fD,HB⟩:=hrel
  have Me:=GI
  have cH:=(Kd.bu eS.out).1
  rw [cH] at eS
  (try simp only [cH])
  (try simp only [cH] at ag)
  (try simp only [cH] at cl)
  (try simp only [cH] at dy)
  (try simp only [cH] at fD)
  (try simp only [cH] at cR)
  cases gk with
  | zero=>exact absurd HA.out (by simp [akr.l0])
  | succ k1 =>
   have H:=HA.out
   clear HA
   simp only [akr.l0] at H
   by_cases c25:nR > 0
   case neg =>
    rw [if_neg c25] at H
    have alv:decide (0 < nR)=false:=decide_eq_false c25
    clear c25
    replace H:=Option.bind_eq_some_iff.mp H
    obtain ⟨t123,LR,H⟩:=H
    replace H:(akr.l3 k1 a2 t123 af aa qw)=some r:=H
    have S4:=k0 LR
    clear LR
    have H':=k0 H
    clear H
    have aim:=wu.out
    have aiX:=uS.out
    have ain:=rA.out
    have aiY:=tT.out
    have aio:=zL.out
    have aiZ:=xS.out
    have aau:wr.cell? ⟨akA,0,none⟩=some (.int .i64 nR):=(av fD.out 0).trans rfl
    have am6:=aH fD.out 0
    have aip:=gw.out
    have ai0:=iI.out
    have aiq:=akG.out
    have ai1:=iU.out
    have aav:wr.cell? ⟨ai,0,none⟩=some (.int .i64 af):=(av ag.out 0).trans rfl
    have aaw:wr.cell? ⟨ai,1,none⟩=some (.slice aq aa.length ak):=(av ag.out 1).trans rfl
    have am7:=aH ag.out 0
    have aa3:=aH ag.out 1
    have air:=kk.out
    have ai2:=jO.out
    have aax:wr.cell? ⟨aZ,0,none⟩=some (u109000):=(av cl.out 0).trans rfl
    have aa4:=aH cl.out 0
    obtain ⟨Gw,Il,Ye⟩:=Kd.eK cR.out
    subst Ye
    go_wp2_with (first|((with_reducible refine cZ (f:=187) rfl ?_);refine c_ (some 56) rfl rfl Try.func187 (by kernel_rfl) rfl #[.agg #[.int .i64 af,.slice aq aa.length ak],.slice Gw qw.length Il,.int .i64 a2] rfl gm ?_;(with_reducible refine (akt.calls k1 af _ _ aa _ _ qw a2 t123 _ ?akn ?aT ?cn ?cw S4.out).mono ?_);(case akn=>exact aC (Kd.bA bU.out HB.out));(case aT=>exact cG.out);(case cn=>exact aC ((Kd.bu cR.out).2.2));(case cw=>exact (Kd.bu cR.out).2.1);rintro e w89 ⟨v124,rfl,CA,ake,hb⟩;refine ⟨_,rfl,?_⟩;have GY:=k0 CA;clear CA;have akf:=k0 (Kd.dV (aR eS.out) (Kd.bW ake) hb);have aD:=k0 (Kd.dV (aR cR.out) (Kd.bW ake) hb);have aJ:=k0 (Kd.dL (Kd.xV (Kd.dW (Kd.dW ake (Kd.cE (aR eS.out))) (Kd.cE (aR cR.out))) (g:=akA) (o:=.cells #[.int .i64 nR] 2 (0,0)) bk) (aU bl));have aX:=k0 (akj (g:=ai) (o:=sO af aq aa ak 31) bk hb);have a_:=k0 (akj (g:=aZ) (o:=.cells #[.slice Gw qw.length Il] 28 (0,0)) bk hb);have akp:=k0 (akj (g:=akq) (o:=.cells #[.slice fV cr.length eZ] 28 (0,0)) bk hb);have bx:=k0 (akj (g:=akA) (o:=.cells #[.int .i64 nR] 2 (0,0)) bk hb);have b9:=k0 (aI bl hb);clear eS;clear cR;clear ag;clear cl;clear dy;clear fD;clear HB;have eS:=akf;have cR:=aD;have uP:=aJ;have ag:=aX;have cl:=a_;have dy:=akp;have fD:=bx;have HB:=b9;clear akf aD aJ aX a_ akp bx b9;(try clear hb);(try clear ake)))
    go_loopg [12] k1 (fun kq v12 w'=>∃ (lK:List Int) (uD:List Int) (u109000:Value),au (lK=[]→v12=.slice none 0 0)∧au (akr.l3 kq a2 lK af aa uD=some r)∧au (kq≤k1)∧au (Kd.R (Kd.int .i64) 2 w' w.heap.size (fun k_=>some k_ ≠ (u109000:Value).ownBlock∧some k_ ≠ ((.slice fV cr.length eZ):Value).ownBlock∧k_ ≠ akA) v12 lK)∧au (Kd.R (Kd.int .i64) 2 w' w.heap.size (fun k_=>some k_ ≠ (v12:Value).ownBlock∧some k_ ≠ ((.slice fV cr.length eZ):Value).ownBlock∧k_ ≠ akA) u109000 uD)∧au (Kd.R (Kd.int .i64) 2 w' w.heap.size (fun k_=>some k_ ≠ (v12:Value).ownBlock∧some k_ ≠ (u109000:Value).ownBlock∧k_ ≠ akA) (.slice fV cr.length eZ) cr)∧au (w'.heap[ai]?=some (sO af aq aa ak 31))∧au (w'.heap[aZ]?=some (.cells #[u109000] 28 (0,0)))∧au (w'.heap[akq]?=some (.cells #[(.slice fV cr.length eZ)] 28 (0,0)))∧au (w'.heap[akA]?=some (.cells #[.int .i64 nR] 2 (0,0)))∧au (Below w.heap.size w w'))
    case atStart=>exact ⟨(t123),(qw),(.slice Gw qw.length Il),GY,H',⟨Nat.le_refl _⟩,⟨by (try simp only [cH]);(with_reducible repeat (first|apply Kd.bN|apply Kd.bQ|apply Kd.bn));exact Kd.bG uP.out (fun _ hk=>⟨hk.1.2,⟨hk.1.1.2,hk.2⟩⟩)⟩,⟨by (try simp only [cH]);(with_reducible repeat (first|apply Kd.bN|apply Kd.bQ|apply Kd.bn));exact Kd.bG cR.out (fun _ hk=>⟨hk.2,⟨hk.1.1,hk.1.2⟩⟩)⟩,⟨by (try simp only [cH]);(with_reducible repeat (first|apply Kd.bN|apply Kd.bQ|apply Kd.bn));exact Kd.bG eS.out (fun _ hk=>⟨hk.2,⟨hk.1.1,hk.1.2⟩⟩)⟩,⟨by (try simp only [cH]);exact bk⟩,⟨by (try simp only [cH]);exact bk⟩,⟨by (try simp only [cH]);exact bk⟩,⟨by (try simp only [cH]);exact bk⟩,⟨bl⟩⟩
    case round =>
     clear H'
     (try clear c25);(try clear alv);(try clear c26);(try clear wG);(try clear H7);(try clear c27);(try clear sr);(try clear BC);(try clear c38);(try clear wH);(try clear c39);(try clear EC);(try clear c40);(try clear alx);(try clear c41);(try clear Aa);(try clear c42);(try clear alE);(try clear zj);(try clear zk);(try clear c50);(try clear sI);(try clear yy);(try clear Ck);(try clear Jr);(try clear Js);(try clear Jt);(try clear aal);(try clear aam);(try clear aan);(try clear aao);(try clear aap);(try clear aaq);(try clear aar);(try clear aas);(try clear aat);(try clear aau);(try clear aav);(try clear aaw);(try clear aax);(try clear alg);(try clear yD);(try clear Cs);(try clear JG);(try clear JH);(try clear JI);(try clear aaS);(try clear aaT);(try clear aaU);(try clear aaV);(try clear aaW);(try clear aaX);(try clear aaY);(try clear aaZ);(try clear aa0);(try clear am6);(try clear am7);(try clear aa3);(try clear aa4);(try clear iZ);(try clear Q2);(try clear iF);(try clear zj);(try clear iG);(try clear zk)
     obtain ⟨lK,uD,u109000,Ui,HA,bz,bV,cR,fh,ag,cl,dy,fD,HB⟩:=hrel
     cases gk with
     | zero=>exact absurd HA.out (by simp [akr.l3])
     | succ k2 =>
      have H:=HA.out
      clear HA
      simp only [akr.l3] at H
      by_cases c90:(lK.length:Int)=0
      case neg =>
       rw [if_neg c90] at H
       have Ia:((lK.length:Int) == 0)=false:=beq_eq_false_iff_ne.mpr c90
       (try simp only [cH] at Ia)
       have Ib:((lK.length:Int) != 0)=true:=bne_iff_ne.mpr c90
       (try simp only [cH] at Ib)
       have af0:¬ (lK=[]):=fun h_=>c90 (by rw [h_];rfl)
       replace H:=Option.bind_eq_some_iff.mp H
       obtain ⟨t126,LS,H⟩:=H
       replace H:((akt.f k2 af aa t126 a2).bind fun t129=>(akr.l3 k2 a2 t129 af aa t126))=some r:=H
       have S5:=k0 LS
       clear LS
       replace H:=Option.bind_eq_some_iff.mp H
       obtain ⟨t129,LU,H⟩:=H
       replace H:(akr.l3 k2 a2 t129 af aa t126)=some r:=H
       have S6:=k0 LU
       clear LU
       have H':=k0 H
       clear H
       obtain ⟨D3,Io,Yf⟩:=Kd.eK bV.out
       subst Yf
       have ajb:Option.isNone D3=false:=(by obtain ⟨agE,af2,Yn,_⟩:=Kd.akT bV.out (by omega);injection Yn with XT _ _;rw [XT];rfl)
       have q_:=RM
       have aiv:=gw.out
       have ai6:=iI.out
       have ahW:=akG.out
       have aiw:=iU.out
       have ahX:=uS.out
       have aix:=wu.out
       have agW:wr.cell? ⟨ai,0,none⟩=some (.int .i64 af):=(av ag.out 0).trans rfl
       have agX:wr.cell? ⟨ai,1,none⟩=some (.slice aq aa.length ak):=(av ag.out 1).trans rfl
       have ahm:=aH ag.out 0
       have ahn:=aH ag.out 1
       have ahY:=kk.out
       have aiy:=jO.out
       have ahZ:=tT.out
       have aiz:=rA.out
       have agY:wr.cell? ⟨aZ,0,none⟩=some (u109000):=(av cl.out 0).trans rfl
       have aho:=aH cl.out 0
       obtain ⟨zz,al4,XV⟩:=Kd.eK cR.out
       subst XV
       go_wp2_with (first|((with_reducible refine cZ (f:=186) rfl ?_);refine c_ (some 66) rfl rfl Try.func186 (by kernel_rfl) rfl #[.agg #[.int .i64 af,.slice aq aa.length ak],.slice zz uD.length al4,.slice D3 lK.length Io] rfl gm ?_;(with_reducible refine (cF.calls k2 af _ _ aa _ _ uD _ _ lK t126 _ ?akn ?aT ?cn ?cw ?ak8 ?ak9 S5.out).mono ?_);(case akn=>exact aC (Kd.bA bU.out HB.out));(case aT=>exact cG.out);(case cn=>exact aC ((Kd.bu cR.out).2.2));(case cw=>exact (Kd.bu cR.out).2.1);(case ak8=>exact aC ((Kd.bu bV.out).2.2));(case ak9=>exact (Kd.bu bV.out).2.1);rintro e Lh ⟨v127,rfl,ake,hb⟩;refine ⟨_,rfl,?_⟩;have akf:=k0 (Kd.dV (aR bV.out) (Kd.bW ake) hb);have aD:=k0 (Kd.dV (aR cR.out) (Kd.bW ake) hb);have aJ:=k0 (Kd.dV (aR fh.out) (Kd.bW ake) hb);have aX:=k0 (Kd.dL (Kd.xV (Kd.dW (Kd.dW (Kd.dW ake (Kd.cE (aR bV.out))) (Kd.cE (aR cR.out))) (Kd.cE (aR fh.out))) (g:=akA) (o:=.cells #[.int .i64 nR] 2 (0,0)) bk) (aU bl));have a_:=k0 (akj (g:=ai) (o:=sO af aq aa ak 31) bk hb);have akp:=k0 (akj (g:=aZ) (o:=.cells #[.slice zz uD.length al4] 28 (0,0)) bk hb);have bx:=k0 (akj (g:=akq) (o:=.cells #[.slice fV cr.length eZ] 28 (0,0)) bk hb);have b9:=k0 (akj (g:=akA) (o:=.cells #[.int .i64 nR] 2 (0,0)) bk hb);have cL:=k0 (aI bl hb);clear bV;clear cR;clear fh;clear ag;clear cl;clear dy;clear fD;clear HB;have bV:=akf;have cR:=aD;have fh:=aJ;have tQ:=aX;have ag:=a_;have cl:=akp;have dy:=bx;have fD:=b9;have HB:=cL;clear akf aD aJ aX a_ akp bx b9 cL;(try clear hb);(try clear ake);obtain ⟨qA,pq,XW⟩:=Kd.eK tQ.out;subst XW;have agZ:Lh.cell? ⟨aZ,0,none⟩=some (.slice zz uD.length al4):=(av cl.out 0).trans rfl;have ahp:=aH cl.out 0;have ag0:Lh.cell? ⟨ai,0,none⟩=some (.int .i64 af):=(av ag.out 0).trans rfl;have ag1:Lh.cell? ⟨ai,1,none⟩=some (.slice aq aa.length ak):=(av ag.out 1).trans rfl;have ahq:=aH ag.out 0;have ahr:=aH ag.out 1)|((with_reducible refine cZ (f:=187) rfl ?_);refine c_ (some 62) rfl rfl Try.func187 (by kernel_rfl) rfl #[.agg #[.int .i64 af,.slice aq aa.length ak],.slice qA t126.length pq,.int .i64 a2] rfl gm ?_;(with_reducible refine (akt.calls k2 af _ _ aa _ _ t126 a2 t129 _ ?akn ?aT ?cn ?cw S6.out).mono ?_);(case akn=>exact Kd.bA bU.out bl);(case aT=>exact cG.out);(case cn=>first|(refine (Kd.bu (e:=2) (base:=w.heap.size) (ok:=fun k_=>((((True∧some k_ ≠ (.slice D3 lK.length Io:Value).ownBlock)∧some k_ ≠ (.slice zz uD.length al4:Value).ownBlock)∧some k_ ≠ (.slice fV cr.length eZ:Value).ownBlock)∧k_ ≠ akA)) (n:=t126.length) (c:=pq) ?_).2.2;exact (by (with_reducible repeat (first|apply Kd.bN|apply Kd.bQ|apply Kd.bn));exact (Kd.bG (Kd.iJ (p:=⟨aZ,0,none⟩) (Kd.ji tQ.out cl.out (by decide)) (fun _ hk=>hk.2) (.slice qA t126.length pq)) (fun _ h_=>h_.1))))|(refine (Kd.bu (e:=2) (base:=w.heap.size) (ok:=fun k_=>(((some k_ ≠ (.slice D3 lK.length Io:Value).ownBlock∧some k_ ≠ (.slice zz uD.length al4:Value).ownBlock)∧some k_ ≠ (.slice fV cr.length eZ:Value).ownBlock)∧k_ ≠ akA)) (n:=t126.length) (c:=pq) ?_).2.2;exact (by (with_reducible repeat (first|apply Kd.bN|apply Kd.bQ|apply Kd.bn));exact (Kd.bG (Kd.iJ (p:=⟨aZ,0,none⟩) (Kd.ji tQ.out cl.out (by decide)) (fun _ hk=>hk.2) (.slice qA t126.length pq)) (fun _ h_=>h_.1)))));(case cw=>exact (Kd.bu tQ.out).2.1);rintro e akb ⟨v130,rfl,CA,ake,hb⟩;refine ⟨_,rfl,?_⟩;have GY:=k0 CA;clear CA;have eR:=k0 (Kd.dL (Kd.xV (Kd.dW (Kd.dW (Kd.dW (Kd.dW ake (Kd.cE (by (with_reducible repeat (first|apply Kd.bN|apply Kd.bQ|apply Kd.bn));exact (Kd.bG (Kd.iJ (p:=⟨aZ,0,none⟩) (Kd.ji bV.out cl.out (by decide)) (fun _ hk=>hk.2) (.slice qA t126.length pq)) (fun _ h_=>h_.1))))) (Kd.cE (by (with_reducible repeat (first|apply Kd.bN|apply Kd.bQ|apply Kd.bn));exact (Kd.bG (Kd.iJ (p:=⟨aZ,0,none⟩) (Kd.ji cR.out cl.out (by decide)) (fun _ hk=>hk.2) (.slice qA t126.length pq)) (fun _ h_=>h_.1))))) (Kd.cE (by (with_reducible repeat (first|apply Kd.bN|apply Kd.bQ|apply Kd.bn));exact (Kd.bG (Kd.iJ (p:=⟨aZ,0,none⟩) (Kd.ji fh.out cl.out (by decide)) (fun _ hk=>hk.2) (.slice qA t126.length pq)) (fun _ h_=>h_.1))))) (Kd.cE (by (with_reducible repeat (first|apply Kd.bN|apply Kd.bQ|apply Kd.bn));exact (Kd.bG (Kd.iJ (p:=⟨aZ,0,none⟩) (Kd.ji tQ.out cl.out (by decide)) (fun _ hk=>hk.2) (.slice qA t126.length pq)) (fun _ h_=>h_.1))))) (g:=akA) (o:=.cells #[.int .i64 nR] 2 (0,0)) (by (with_reducible repeat (first|refine ee ?_ _|refine ct ?_|refine dX ?_ _));refine fX ?_ rA.out _;exact bk)) (aU bl));replace bV:=k0 (Kd.dV (by (with_reducible repeat (first|apply Kd.bN|apply Kd.bQ|apply Kd.bn));exact (Kd.bG (Kd.iJ (p:=⟨aZ,0,none⟩) (Kd.ji bV.out cl.out (by decide)) (fun _ hk=>hk.2) (.slice qA t126.length pq)) (fun _ h_=>h_.1))) (Kd.bW ake) hb);replace cR:=k0 (Kd.dV (by (with_reducible repeat (first|apply Kd.bN|apply Kd.bQ|apply Kd.bn));exact (Kd.bG (Kd.iJ (p:=⟨aZ,0,none⟩) (Kd.ji cR.out cl.out (by decide)) (fun _ hk=>hk.2) (.slice qA t126.length pq)) (fun _ h_=>h_.1))) (Kd.bW ake) hb);replace fh:=k0 (Kd.dV (by (with_reducible repeat (first|apply Kd.bN|apply Kd.bQ|apply Kd.bn));exact (Kd.bG (Kd.iJ (p:=⟨aZ,0,none⟩) (Kd.ji fh.out cl.out (by decide)) (fun _ hk=>hk.2) (.slice qA t126.length pq)) (fun _ h_=>h_.1))) (Kd.bW ake) hb);replace tQ:=k0 (Kd.dV (by (with_reducible repeat (first|apply Kd.bN|apply Kd.bQ|apply Kd.bn));exact (Kd.bG (Kd.iJ (p:=⟨aZ,0,none⟩) (Kd.ji tQ.out cl.out (by decide)) (fun _ hk=>hk.2) (.slice qA t126.length pq)) (fun _ h_=>h_.1))) (Kd.bW ake) hb);replace ag:=k0 (akj (g:=ai) (o:=sO af aq aa ak 31) (by (with_reducible repeat (first|refine ee ?_ _|refine ct ?_|refine dX ?_ _));refine fX ?_ gw.out _;exact bk) hb);replace cl:=k0 (akj (g:=aZ) (o:=.cells #[.slice qA t126.length pq] 28 (0,0)) (by (with_reducible repeat (first|refine ee ?_ _|refine ct ?_|refine dX ?_ _));refine nG (cs:=#[.slice zz uD.length al4]) ?_ 0 _ rfl;exact bk) hb);replace dy:=k0 (akj (g:=akq) (o:=.cells #[.slice fV cr.length eZ] 28 (0,0)) (by (with_reducible repeat (first|refine ee ?_ _|refine ct ?_|refine dX ?_ _));refine fX ?_ jO.out _;exact bk) hb);replace fD:=k0 (akj (g:=akA) (o:=.cells #[.int .i64 nR] 2 (0,0)) (by (with_reducible repeat (first|refine ee ?_ _|refine ct ?_|refine dX ?_ _));refine fX ?_ rA.out _;exact bk) hb);replace HB:=k0 (aI bl hb);(try clear hb);(try clear ake)))
       go_roundg k2
       case measure=>have:=akl.out;have:=bz.out;omega
       case rel=>exact ⟨(t129),(t126),(.slice qA t126.length pq),GY,H',⟨by have:=akl.out;have:=bz.out;omega⟩,⟨by (try simp only [cH]);(with_reducible repeat (first|apply Kd.bN|apply Kd.bQ|apply Kd.bn));exact Kd.bG eR.out (fun _ hk=>⟨hk.1.2,⟨hk.1.1.2,hk.2⟩⟩)⟩,⟨by (try simp only [cH]);(with_reducible repeat (first|apply Kd.bN|apply Kd.bQ|apply Kd.bn));exact Kd.bG tQ.out (fun _ hk=>⟨hk.2,⟨hk.1.1.2,hk.1.2⟩⟩)⟩,⟨by (try simp only [cH]);(with_reducible repeat (first|apply Kd.bN|apply Kd.bQ|apply Kd.bn));exact Kd.bG fh.out (fun _ hk=>⟨hk.2,⟨hk.1.2,hk.1.1.2.2⟩⟩)⟩,⟨by (try simp only [cH]);exact bk⟩,⟨by (try simp only [cH]);exact bk⟩,⟨by (try simp only [cH]);exact bk⟩,⟨by (try simp only [cH]);exact bk⟩,⟨bl⟩⟩
      rw [if_pos c90] at H
      have Ia:((lK.length:Int) == 0)=true:=beq_iff_eq.mpr c90
      (try simp only [cH] at Ia)
      have Ib:((lK.length:Int) != 0)=false:=bne_eq_false_iff_eq.mpr c90
      (try simp only [cH] at Ib)
      have abt:=Ui.out (List.eq_nil_of_length_eq_zero (by omega))
      subst abt
      clear c90
      obtain rfl:=Option.some.inj H
      have q_:=RM
      have ais:=iI.out
      have ai3:=gw.out
      have ait:=kk.out
      have ai4:=jO.out
      have aiu:=tT.out
      have ai5:=rA.out
      have ag7:wr.cell? ⟨aZ,0,none⟩=some (u109000):=(av cl.out 0).trans rfl
      have ahx:=aH cl.out 0
      go_wp2
      go_ret
      exact ⟨_,by first|rfl|(simp [bq,bt]<;>rfl)|(simp [*,bq,bt]<;>rfl),by (with_reducible repeat (first|apply Kd.bN|apply Kd.bQ|apply Kd.bn));exact Kd.bG cR.out (fun _ hk=>trivial),bl⟩
   rw [if_pos c25] at H
   have alv:=decide_eq_true c25
   clear c25
   replace H:=iS H;obtain ⟨c26,H⟩:=H
   have wG:=eq_true c26
   have H7:=decide_eq_true c26
   clear c26
   replace H:=iS H;obtain ⟨c27,H⟩:=H
   have sr:=eq_true c27
   have BC:=decide_eq_true c27
   clear c27
   obtain ⟨qz,C8⟩:∃ y_:List Int,y_=(List.replicate (af:Int).toNat 0):=⟨_,rfl⟩
   replace H:(akr.l1 k1 a2 qz cr (qz.length:Int) 0 af aa qw cr nR)=some r:=by first|(rw [C8];with_reducible exact H)|(have ay:=(Option.bind_some _ _).symm.trans H;rw [C8];with_reducible exact ay)|(have ay:=(Option.bind_some _ _).symm.trans H;with_reducible exact ay)|with_reducible exact H|(rw [C8];exact H)|exact H
   have MX:=k0 C8
   clear C8
   have H':=k0 H
   clear H
   have ah5:=wu.out
   have aiF:=uS.out
   have ah6:=rA.out
   have aiG:=tT.out
   have ah7:=zL.out
   have aiH:=xS.out
   have Jr:wr.cell? ⟨akA,0,none⟩=some (.int .i64 nR):=(av fD.out 0).trans rfl
   have JG:=aH fD.out 0
   have ah8:=gw.out
   have aiI:=iI.out
   have ah9:=akG.out
   have aiJ:=iU.out
   have Js:wr.cell? ⟨ai,0,none⟩=some (.int .i64 af):=(av ag.out 0).trans rfl
   have Jt:wr.cell? ⟨ai,1,none⟩=some (.slice aq aa.length ak):=(av ag.out 1).trans rfl
   have JH:=aH ag.out 0
   have JI:=aH ag.out 1
   go_wp2_with (first|((with_reducible refine cj (N:=28) rfl ?_);refine Kd.xU (Kd.int .i64) _ 2 rfl (N:=28) rfl 28 _ _ rfl af rfl rfl Try.underlying28 (.int .i64 0) 8 lH rfl (by decide) (by omega) 0 (ok:=fun _=>True) (cA:=fun _=>True) rfl (fun _ hk=>hk) trivial oD (Nat.le_trans (Nat.mul_le_mul_right _ (oD:af.toNat≤35184372088832)) (by omega)) (Below.refl _ _) (Nat.le_refl _) ?_;intro ajE ak' ql hb eB eC;clear eB eC;(first|rw [← MX.out] at ql|(simp only [Int.reduceToNat] at ql;rw [← MX.out] at ql));have akf:=k0 (Kd.dV (aR eS.out) (Kd.bW ql) hb);have aD:=k0 (Kd.dV (aR cR.out) (Kd.bW ql) hb);have aJ:=k0 (Kd.dL (Kd.xV (Kd.dW (Kd.dW ql (Kd.cE (aR eS.out))) (Kd.cE (aR cR.out))) (g:=akA) (o:=.cells #[.int .i64 nR] 2 (0,0)) bk) (aU bl));have aX:=k0 (akj (g:=ai) (o:=sO af aq aa ak 31) bk hb);have a_:=k0 (akj (g:=aZ) (o:=.cells #[u109000] 28 (0,0)) bk hb);have akp:=k0 (akj (g:=akq) (o:=.cells #[.slice fV cr.length eZ] 28 (0,0)) bk hb);have bx:=k0 (akj (g:=akA) (o:=.cells #[.int .i64 nR] 2 (0,0)) bk hb);have b9:=k0 (aI bl hb);clear eS;clear cR;clear ag;clear cl;clear dy;clear fD;clear HB;have eS:=akf;have cR:=aD;have My:=aJ;have ag:=aX;have cl:=a_;have dy:=akp;have fD:=bx;have HB:=b9;clear akf aD aJ aX a_ akp bx b9;clear hb ql;obtain ⟨uH,oO,X1⟩:=Kd.eK My.out;subst X1))
   go_loopg [31] k1 (fun kq v31 w'=>∃ (jI:List Int) (jX:Int) (gG:Int),v31=.int .i64 jX∧au (akr.l1 kq a2 jI cr (qz.length:Int) jX af aa qw cr gG=some r)∧au (kq≤k1)∧au (Kd.R (Kd.int .i64) 2 w' w.heap.size (fun k_=>some k_ ≠ ((.slice fV cr.length eZ):Value).ownBlock∧some k_ ≠ (u109000:Value).ownBlock∧some k_ ≠ ((.slice fV cr.length eZ):Value).ownBlock∧k_ ≠ akA) (.slice uH qz.length oO) jI)∧au (Kd.R (Kd.int .i64) 2 w' w.heap.size (fun k_=>some k_ ≠ ((.slice uH qz.length oO):Value).ownBlock∧some k_ ≠ (u109000:Value).ownBlock∧k_ ≠ akA) (.slice fV cr.length eZ) cr)∧au (Kd.R (Kd.int .i64) 2 w' w.heap.size (fun k_=>some k_ ≠ ((.slice uH qz.length oO):Value).ownBlock∧some k_ ≠ ((.slice fV cr.length eZ):Value).ownBlock∧some k_ ≠ ((.slice fV cr.length eZ):Value).ownBlock∧k_ ≠ akA) u109000 qw)∧au (Kd.R (Kd.int .i64) 2 w' w.heap.size (fun k_=>some k_ ≠ ((.slice uH qz.length oO):Value).ownBlock∧some k_ ≠ (u109000:Value).ownBlock∧k_ ≠ akA) (.slice fV cr.length eZ) cr)∧au (w'.heap[ai]?=some (sO af aq aa ak 31))∧au (w'.heap[aZ]?=some (.cells #[u109000] 28 (0,0)))∧au (w'.heap[akq]?=some (.cells #[(.slice fV cr.length eZ)] 28 (0,0)))∧au (w'.heap[akA]?=some (.cells #[.int .i64 gG] 2 (0,0)))∧au (Below w.heap.size w w'))
   case atStart=>exact ⟨(qz),(0),(nR),rs,H',⟨Nat.le_refl _⟩,⟨by (try simp only [cH]);(with_reducible repeat (first|apply Kd.bN|apply Kd.bQ|apply Kd.bn));exact Kd.bG My.out (fun _ hk=>⟨hk.1.1.2,⟨hk.1.2,⟨hk.1.1.2,hk.2⟩⟩⟩)⟩,⟨by (try simp only [cH]);(with_reducible repeat (first|apply Kd.bN|apply Kd.bQ|apply Kd.bn));exact Kd.bG eS.out (fun _ hk=>⟨hk.2,⟨hk.1.1,hk.1.2⟩⟩)⟩,⟨by (try simp only [cH]);(with_reducible repeat (first|apply Kd.bN|apply Kd.bQ|apply Kd.bn));exact Kd.bG cR.out (fun _ hk=>⟨hk.2,⟨hk.1.1,⟨hk.1.1,hk.1.2⟩⟩⟩)⟩,⟨by (try simp only [cH]);(with_reducible repeat (first|apply Kd.bN|apply Kd.bQ|apply Kd.bn));exact Kd.bG eS.out (fun _ hk=>⟨hk.2,⟨hk.1.1,hk.1.2⟩⟩)⟩,⟨by (try simp only [cH]);exact bk⟩,⟨by (try simp only [cH]);exact bk⟩,⟨by (try simp only [cH]);exact bk⟩,⟨by (try simp only [cH]);exact bk⟩,⟨bl⟩⟩
   case round =>
    clear H'
    (try clear c25);(try clear alv);(try clear c26);(try clear wG);(try clear H7);(try clear c27);(try clear sr);(try clear BC);(try clear sI);(try clear yy);(try clear Ck);(try clear Jr);(try clear Js);(try clear Jt);(try clear alg);(try clear yD);(try clear Cs);(try clear JG);(try clear JH);(try clear JI)
    obtain ⟨jI,jX,gG,rfl,HA,bz,fP,eS,cR,fh,ag,cl,dy,fD,HB⟩:=hrel
    have eF:=(Kd.bu fP.out).1
    rw [eF] at fP
    (try simp only [eF])
    (try simp only [eF] at ag)
    (try simp only [eF] at cl)
    (try simp only [eF] at dy)
    (try simp only [eF] at fD)
    (try simp only [eF] at eS)
    (try simp only [eF] at cR)
    (try simp only [eF] at fh)
    cases gk with
    | zero=>exact absurd HA.out (by simp [akr.l1])
    | succ k2 =>
     have H:=HA.out
     clear HA
     simp only [akr.l1] at H
     by_cases c38:jX < (qz.length:Int)
     case neg =>
      rw [if_neg c38] at H
      have wH:decide (jX < (qz.length:Int))=false:=decide_eq_false c38
      (try simp only [cH,eF] at wH)
      clear c38
      have H':=k0 H
      clear H
      go_wp2
      go_loopg [] k2 (fun kq w'=>∃ (kI:List Int) (u109000:Value),au (akr.l2 kq a2 jI cr af aa kI cr gG=some r)∧au (kq≤k2)∧au (Kd.R (Kd.int .i64) 2 w' w.heap.size (fun k_=>some k_ ≠ ((.slice fV cr.length eZ):Value).ownBlock∧some k_ ≠ (u109000:Value).ownBlock∧some k_ ≠ ((.slice fV cr.length eZ):Value).ownBlock∧k_ ≠ akA) (.slice uH jI.length oO) jI)∧au (Kd.R (Kd.int .i64) 2 w' w.heap.size (fun k_=>some k_ ≠ ((.slice uH jI.length oO):Value).ownBlock∧some k_ ≠ (u109000:Value).ownBlock∧k_ ≠ akA) (.slice fV cr.length eZ) cr)∧au (Kd.R (Kd.int .i64) 2 w' w.heap.size (fun k_=>some k_ ≠ ((.slice uH jI.length oO):Value).ownBlock∧some k_ ≠ ((.slice fV cr.length eZ):Value).ownBlock∧some k_ ≠ ((.slice fV cr.length eZ):Value).ownBlock∧k_ ≠ akA) u109000 kI)∧au (Kd.R (Kd.int .i64) 2 w' w.heap.size (fun k_=>some k_ ≠ ((.slice uH jI.length oO):Value).ownBlock∧some k_ ≠ (u109000:Value).ownBlock∧k_ ≠ akA) (.slice fV cr.length eZ) cr)∧au (w'.heap[ai]?=some (sO af aq aa ak 31))∧au (w'.heap[aZ]?=some (.cells #[u109000] 28 (0,0)))∧au (w'.heap[akq]?=some (.cells #[(.slice fV cr.length eZ)] 28 (0,0)))∧au (w'.heap[akA]?=some (.cells #[.int .i64 gG] 2 (0,0)))∧au (Below w.heap.size w w'))
      case atStart=>exact ⟨(qw),(u109000),H',⟨Nat.le_refl _⟩,⟨by (try simp only [cH]);(try simp only [eF]);(with_reducible repeat (first|apply Kd.bN|apply Kd.bQ|apply Kd.bn));exact fP.out⟩,⟨by (try simp only [cH]);(try simp only [eF]);(with_reducible repeat (first|apply Kd.bN|apply Kd.bQ|apply Kd.bn));exact eS.out⟩,⟨by (try simp only [cH]);(try simp only [eF]);(with_reducible repeat (first|apply Kd.bN|apply Kd.bQ|apply Kd.bn));exact cR.out⟩,⟨by (try simp only [cH]);(try simp only [eF]);(with_reducible repeat (first|apply Kd.bN|apply Kd.bQ|apply Kd.bn));exact fh.out⟩,⟨by (try simp only [cH]);(try simp only [eF]);exact bk⟩,⟨by (try simp only [cH]);(try simp only [eF]);exact bk⟩,⟨by (try simp only [cH]);(try simp only [eF]);exact bk⟩,⟨by (try simp only [cH]);(try simp only [eF]);exact bk⟩,⟨bl⟩⟩
      case round =>
       clear H'
       (try clear c25);(try clear alv);(try clear c26);(try clear wG);(try clear H7);(try clear c27);(try clear sr);(try clear BC);(try clear c38);(try clear wH);(try clear c39);(try clear EC);(try clear c40);(try clear alx);(try clear c41);(try clear Aa);(try clear c42);(try clear alE);(try clear zj);(try clear zk);(try clear sI);(try clear yy);(try clear Ck);(try clear Jr);(try clear Js);(try clear Jt);(try clear alg);(try clear yD);(try clear Cs);(try clear JG);(try clear JH);(try clear JI);(try clear iZ);(try clear Q2);(try clear iF);(try clear zj);(try clear iG);(try clear zk)
       obtain ⟨kI,u109000,HA,dg,fP,eS,cR,fh,ag,cl,dy,fD,HB⟩:=hrel
       cases gk with
       | zero=>exact absurd HA.out (by simp [akr.l2])
       | succ k3 =>
        have H:=HA.out
        clear HA
        simp only [akr.l2] at H
        replace H:=Option.bind_eq_some_iff.mp H
        obtain ⟨t116,amc,H⟩:=H
        replace H:((nX.f k3 t116 cr gG kI).bind fun t119=>(if t119=true then ((cF.f k3 af aa kI jI).bind fun t120=>(akr.l2 k3 a2 jI cr af aa t120 cr gG)) else (akr.l0 k3 a2 cr af aa kI (wrap64 (gG - 1)))))=some r:=H
        have xI:=k0 amc
        clear amc
        replace H:=Option.bind_eq_some_iff.mp H
        obtain ⟨t119,LJ,H⟩:=H
        replace H:(if t119=true then ((cF.f k3 af aa kI jI).bind fun t120=>(akr.l2 k3 a2 jI cr af aa t120 cr gG)) else (akr.l0 k3 a2 cr af aa kI (wrap64 (gG - 1))))=some r:=H
        have LI:=k0 LJ
        clear LJ
        by_cases c50:t119=true
        case neg =>
         replace c50:=Bool.eq_false_iff.mpr c50
         subst c50
         have H1:(akr.l0 k3 a2 cr af aa kI (wrap64 (gG - 1)))=some r:=by rw [if_neg (show ¬ (false=true) by decide)] at H;exact H
         clear H
         have H:=H1
         clear H1
         have H':=k0 H
         clear H
         have aif:=gw.out
         have aiR:=iI.out
         have aih:=akG.out
         have aiS:=iU.out
         have aii:=uS.out
         have aiT:=wu.out
         have aar:wr.cell? ⟨ai,0,none⟩=some (.int .i64 af):=(av ag.out 0).trans rfl
         have aas:wr.cell? ⟨ai,1,none⟩=some (.slice aq aa.length ak):=(av ag.out 1).trans rfl
         have aaY:=aH ag.out 0
         have aaZ:=aH ag.out 1
         go_wp2_with (first|((with_reducible refine cZ (f:=115) rfl ?_);refine c_ (some 45) rfl rfl Try.func115 (by kernel_rfl) rfl #[.agg #[.int .i64 af,.slice aq aa.length ak]] rfl gm ?_;(with_reducible refine (ig.calls k3 af _ _ aa t116 _ ?akn ?aT xI.out).mono ?_);(case akn=>exact aC (Kd.bA bU.out HB.out));(case aT=>exact cG.out);rintro e w71 ⟨v117,rfl,ake,hb⟩;refine ⟨_,rfl,?_⟩;have akf:=k0 (Kd.dV (aR fP.out) (Kd.bW ake) hb);have aD:=k0 (Kd.dV (aR eS.out) (Kd.bW ake) hb);have aJ:=k0 (Kd.dV (aR cR.out) (Kd.bW ake) hb);have aX:=k0 (Kd.dV (aR fh.out) (Kd.bW ake) hb);have a_:=k0 (Kd.dL (Kd.xV (Kd.dW (Kd.dW (Kd.dW (Kd.dW ake (Kd.cE (aR fP.out))) (Kd.cE (aR eS.out))) (Kd.cE (aR cR.out))) (Kd.cE (aR fh.out))) (g:=akA) (o:=.cells #[.int .i64 gG] 2 (0,0)) bk) (aU bl));have akp:=k0 (akj (g:=ai) (o:=sO af aq aa ak 31) bk hb);have bx:=k0 (akj (g:=aZ) (o:=.cells #[u109000] 28 (0,0)) bk hb);have b9:=k0 (akj (g:=akq) (o:=.cells #[.slice fV cr.length eZ] 28 (0,0)) bk hb);have cL:=k0 (akj (g:=akA) (o:=.cells #[.int .i64 gG] 2 (0,0)) bk hb);have akB:=k0 (aI bl hb);clear fP;clear eS;clear cR;clear fh;clear ag;clear cl;clear dy;clear fD;clear HB;have fP:=akf;have eS:=aD;have cR:=aJ;have fh:=aX;have gZ:=a_;have ag:=akp;have cl:=bx;have dy:=b9;have fD:=cL;have HB:=akB;clear akf aD aJ aX a_ akp bx b9 cL akB;(try clear hb);(try clear ake);obtain ⟨Te,Xp,Yb⟩:=Kd.eK gZ.out;subst Yb;obtain ⟨zB,Ah,Yc⟩:=Kd.eK cR.out;subst Yc)|((with_reducible refine cZ (f:=98) rfl ?_);refine c_ (some 47) rfl rfl Try.func98 (by kernel_rfl) rfl #[.slice Te t116.length Xp,.func (.func 185) #[] #[.pointer (some ⟨akq,0,none⟩),.pointer (some ⟨akA,0,none⟩),.pointer (some ⟨aZ,0,none⟩)]] rfl gm ?_;(with_reducible refine (nX.calls k3 _ _ t116 fV eZ cr gG zB Ah kI false _ ?akn ?aT ?cn ?cw ?ak8 ?ak9 ?DG ?DH ?amr LI.out).mono ?_);(case akn=>exact aC ((Kd.bu gZ.out).2.2));(case aT=>exact (Kd.bu gZ.out).2.1);(case cn=>exact aC ((Kd.bu fh.out).2.2));(case cw=>exact (Kd.bu fh.out).2.1);(case ak8=>exact aC ((Kd.bu cR.out).2.2));(case ak9=>exact (Kd.bu cR.out).2.1);(case DG=>exact by exact bk);(case DH=>exact by exact bk);(case amr=>exact by exact bk);rintro e w74 ⟨rfl,hb⟩;refine ⟨_,rfl,?_⟩;have akf:=k0 (Kd.di (aR fP.out) hb);have aD:=k0 (Kd.di (aR eS.out) hb);have aJ:=k0 (Kd.di (aR cR.out) hb);have aX:=k0 (Kd.di (aR fh.out) hb);have a_:=k0 (Kd.di (aR gZ.out) hb);have akp:=k0 (akj (g:=ai) (o:=sO af aq aa ak 31) bk hb);have bx:=k0 (akj (g:=aZ) (o:=.cells #[.slice zB kI.length Ah] 28 (0,0)) bk hb);have b9:=k0 (akj (g:=akq) (o:=.cells #[.slice fV cr.length eZ] 28 (0,0)) bk hb);have cL:=k0 (akj (g:=akA) (o:=.cells #[.int .i64 gG] 2 (0,0)) bk hb);have akB:=k0 (aI bl hb);clear fP;clear eS;clear cR;clear fh;clear gZ;clear ag;clear cl;clear dy;clear fD;clear HB;have fP:=akf;have eS:=aD;have cR:=aJ;have fh:=aX;have gZ:=a_;have ag:=akp;have cl:=bx;have dy:=b9;have fD:=cL;have HB:=akB;clear akf aD aJ aX a_ akp bx b9 cL akB;(try clear hb);have aik:=rA.out;have aiV:=tT.out;have ail:=zL.out;have aiW:=xS.out;have aat:w74.cell? ⟨akA,0,none⟩=some (.int .i64 gG):=(av fD.out 0).trans rfl;have aa0:=aH fD.out 0)|((with_reducible refine cj (N:=9) rfl ?_);refine dJ ?hg (N:=9) ?hd (cs:=#[.int .i64 0]) (t:=2) ?hr ?_;(case hd=>rfl);(case hg=>rfl);(case hr=>first|(go_simp;done)|(go_simp;rfl));intro oo hg wn_ aK hb;have akf:=k0 (Kd.di (Kd.El (aR eS.out) oo (Nat.le_of_eq hg.symm)) hb);have aD:=k0 (Kd.di (Kd.El (aR cR.out) oo (Nat.le_of_eq hg.symm)) hb);have aJ:=k0 (akj (g:=ai) (o:=sO af aq aa ak 31) bk hb);have aX:=k0 (akj (g:=aZ) (o:=.cells #[.slice zB kI.length Ah] 28 (0,0)) bk hb);have a_:=k0 (akj (g:=akq) (o:=.cells #[.slice fV cr.length eZ] 28 (0,0)) bk hb);have akp:=k0 (aK);have bx:=k0 ((by rw [hg];exact (aU bl):w.heap.size≤oo));have b9:=k0 ((by rw [hg];exact Nat.ne_of_lt (cJ (g:=ai) (o:=sO af aq aa ak 31) bk):ai ≠ oo));have cL:=k0 ((by rw [hg];exact Nat.ne_of_gt (cJ (g:=ai) (o:=sO af aq aa ak 31) bk):oo ≠ ai));have akB:=k0 ((by rw [hg];exact Nat.ne_of_lt (cJ (g:=aZ) (o:=.cells #[.slice zB kI.length Ah] 28 (0,0)) bk):aZ ≠ oo));have j9:=k0 ((by rw [hg];exact Nat.ne_of_gt (cJ (g:=aZ) (o:=.cells #[.slice zB kI.length Ah] 28 (0,0)) bk):oo ≠ aZ));have ox:=k0 ((by rw [hg];exact Nat.ne_of_lt (cJ (g:=akq) (o:=.cells #[.slice fV cr.length eZ] 28 (0,0)) bk):akq ≠ oo));have tu:=k0 ((by rw [hg];exact Nat.ne_of_gt (cJ (g:=akq) (o:=.cells #[.slice fV cr.length eZ] 28 (0,0)) bk):oo ≠ akq));have tv:=k0 (aI bl hb);clear eS;clear cR;clear ag;clear cl;clear dy;clear fD;clear HB;have eS:=akf;have cR:=aD;have ag:=aJ;have cl:=aX;have dy:=a_;have fD:=akp;have Mc:=bx;have amC:=b9;have UP:=cL;have HF:=akB;have UQ:=j9;have amD:=ox;have UR:=tu;have HB:=tv;clear akf aD aJ aX a_ akp bx b9 cL akB j9 ox tu tv;clear hb aK hg;have ag9:wn_.cell? ⟨oo,0,none⟩=some (.int .i64 0):=(av fD.out 0).trans rfl;have ahz:=aH fD.out 0))
         (try simp only [← cH,← eF])
         go_roundg k3
         case measure=>have:=akl.out;have:=bz.out;have:=dg.out;omega
         case rel=>exact ⟨(cr),(kI),(wrap64 (gG - 1)),(.slice zB kI.length Ah),oo,rs,⟨Mc.out⟩,amC,UP,HF,UQ,amD,UR,H',⟨by have:=akl.out;have:=bz.out;have:=dg.out;omega⟩,⟨by (try simp only [cH]);(try simp only [eF]);(with_reducible repeat (first|apply Kd.bN|apply Kd.bQ|apply Kd.bn));exact Kd.bG (Kd.iJ (p:=⟨oo,0,none⟩) (Kd.iJ (p:=⟨oo,0,none⟩) (Kd.bG eS.out (fun k_ hk=>(⟨hk,hk.2⟩:_∧k_ ≠ oo))) (fun _ hk=>hk.2) (.int .i64 gG)) (fun _ hk=>hk.2) (.int .i64 (wrap64 (gG - 1)))) (fun _ hk=>⟨hk.1.1.1.2.1,hk.2⟩)⟩,⟨by (try simp only [cH]);(try simp only [eF]);(with_reducible repeat (first|apply Kd.bN|apply Kd.bQ|apply Kd.bn));exact Kd.bG (Kd.iJ (p:=⟨oo,0,none⟩) (Kd.iJ (p:=⟨oo,0,none⟩) (Kd.bG cR.out (fun k_ hk=>(⟨hk,hk.2⟩:_∧k_ ≠ oo))) (fun _ hk=>hk.2) (.int .i64 gG)) (fun _ hk=>hk.2) (.int .i64 (wrap64 (gG - 1)))) (fun _ hk=>⟨hk.1.1.1.2.1,hk.2⟩)⟩,⟨by (try simp only [cH]);(try simp only [eF]);(with_reducible repeat (first|refine ee ?_ _|refine ct ?_|refine dX ?_ _));refine fX ?_ amC.out _;refine fX ?_ amC.out _;exact bk⟩,⟨by (try simp only [cH]);(try simp only [eF]);(with_reducible repeat (first|refine ee ?_ _|refine ct ?_|refine dX ?_ _));refine fX ?_ HF.out _;refine fX ?_ HF.out _;exact bk⟩,⟨by (try simp only [cH]);(try simp only [eF]);(with_reducible repeat (first|refine ee ?_ _|refine ct ?_|refine dX ?_ _));refine fX ?_ amD.out _;refine fX ?_ amD.out _;exact bk⟩,⟨by (try simp only [cH]);(try simp only [eF]);(with_reducible repeat (first|refine ee ?_ _|refine ct ?_|refine dX ?_ _));refine nG (cs:=#[.int .i64 gG]) ?_ 0 _ rfl;refine nG (cs:=#[.int .i64 0]) ?_ 0 _ rfl;exact bk⟩,⟨by repeat (first|(with_reducible first|exact HB.out|apply dA|apply akz|apply cP|refine dM ?_ ej.out|refine dM ?_ kf.out|refine dM ?_ kg.out|refine dM ?_ Mc.out)|exact HB.out)⟩⟩
        subst c50
        have H1:((cF.f k3 af aa kI jI).bind fun t120=>(akr.l2 k3 a2 jI cr af aa t120 cr gG))=some r:=by rw [if_pos rfl] at H;exact H
        clear H
        have H:=H1
        clear H1
        replace H:=Option.bind_eq_some_iff.mp H
        obtain ⟨t120,aly,H⟩:=H
        replace H:(akr.l2 k3 a2 jI cr af aa t120 cr gG)=some r:=H
        have xJ:=k0 aly
        clear aly
        have H':=k0 H
        clear H
        have ah_:=gw.out
        have aiL:=iI.out
        have aia:=akG.out
        have aiM:=iU.out
        have aib:=uS.out
        have aiN:=wu.out
        have aal:wr.cell? ⟨ai,0,none⟩=some (.int .i64 af):=(av ag.out 0).trans rfl
        have aam:wr.cell? ⟨ai,1,none⟩=some (.slice aq aa.length ak):=(av ag.out 1).trans rfl
        have aaS:=aH ag.out 0
        have aaT:=aH ag.out 1
        go_wp2_with (first|((with_reducible refine cZ (f:=115) rfl ?_);refine c_ (some 45) rfl rfl Try.func115 (by kernel_rfl) rfl #[.agg #[.int .i64 af,.slice aq aa.length ak]] rfl gm ?_;(with_reducible refine (ig.calls k3 af _ _ aa t116 _ ?akn ?aT xI.out).mono ?_);(case akn=>exact aC (Kd.bA bU.out HB.out));(case aT=>exact cG.out);rintro e SA ⟨v117,rfl,ake,hb⟩;refine ⟨_,rfl,?_⟩;have akf:=k0 (Kd.dV (aR fP.out) (Kd.bW ake) hb);have aD:=k0 (Kd.dV (aR eS.out) (Kd.bW ake) hb);have aJ:=k0 (Kd.dV (aR cR.out) (Kd.bW ake) hb);have aX:=k0 (Kd.dV (aR fh.out) (Kd.bW ake) hb);have a_:=k0 (Kd.dL (Kd.xV (Kd.dW (Kd.dW (Kd.dW (Kd.dW ake (Kd.cE (aR fP.out))) (Kd.cE (aR eS.out))) (Kd.cE (aR cR.out))) (Kd.cE (aR fh.out))) (g:=akA) (o:=.cells #[.int .i64 gG] 2 (0,0)) bk) (aU bl));have akp:=k0 (akj (g:=ai) (o:=sO af aq aa ak 31) bk hb);have bx:=k0 (akj (g:=aZ) (o:=.cells #[u109000] 28 (0,0)) bk hb);have b9:=k0 (akj (g:=akq) (o:=.cells #[.slice fV cr.length eZ] 28 (0,0)) bk hb);have cL:=k0 (akj (g:=akA) (o:=.cells #[.int .i64 gG] 2 (0,0)) bk hb);have akB:=k0 (aI bl hb);clear fP;clear eS;clear cR;clear fh;clear ag;clear cl;clear dy;clear fD;clear HB;have fP:=akf;have eS:=aD;have cR:=aJ;have fh:=aX;have gZ:=a_;have ag:=akp;have cl:=bx;have dy:=b9;have fD:=cL;have HB:=akB;clear akf aD aJ aX a_ akp bx b9 cL akB;(try clear hb);(try clear ake);obtain ⟨S9,Xj,X6⟩:=Kd.eK gZ.out;subst X6;obtain ⟨uI,vn,ER⟩:=Kd.eK cR.out;subst ER)|((with_reducible refine cZ (f:=98) rfl ?_);refine c_ (some 47) rfl rfl Try.func98 (by kernel_rfl) rfl #[.slice S9 t116.length Xj,.func (.func 185) #[] #[.pointer (some ⟨akq,0,none⟩),.pointer (some ⟨akA,0,none⟩),.pointer (some ⟨aZ,0,none⟩)]] rfl gm ?_;(with_reducible refine (nX.calls k3 _ _ t116 fV eZ cr gG uI vn kI true _ ?akn ?aT ?cn ?cw ?ak8 ?ak9 ?DG ?DH ?amr LI.out).mono ?_);(case akn=>exact aC ((Kd.bu gZ.out).2.2));(case aT=>exact (Kd.bu gZ.out).2.1);(case cn=>exact aC ((Kd.bu fh.out).2.2));(case cw=>exact (Kd.bu fh.out).2.1);(case ak8=>exact aC ((Kd.bu cR.out).2.2));(case ak9=>exact (Kd.bu cR.out).2.1);(case DG=>exact by exact bk);(case DH=>exact by exact bk);(case amr=>exact by exact bk);rintro e zu ⟨rfl,hb⟩;refine ⟨_,rfl,?_⟩;have akf:=k0 (Kd.di (aR fP.out) hb);have aD:=k0 (Kd.di (aR eS.out) hb);have aJ:=k0 (Kd.di (aR cR.out) hb);have aX:=k0 (Kd.di (aR fh.out) hb);have a_:=k0 (Kd.di (aR gZ.out) hb);have akp:=k0 (akj (g:=ai) (o:=sO af aq aa ak 31) bk hb);have bx:=k0 (akj (g:=aZ) (o:=.cells #[.slice uI kI.length vn] 28 (0,0)) bk hb);have b9:=k0 (akj (g:=akq) (o:=.cells #[.slice fV cr.length eZ] 28 (0,0)) bk hb);have cL:=k0 (akj (g:=akA) (o:=.cells #[.int .i64 gG] 2 (0,0)) bk hb);have akB:=k0 (aI bl hb);clear fP;clear eS;clear cR;clear fh;clear gZ;clear ag;clear cl;clear dy;clear fD;clear HB;have fP:=akf;have eS:=aD;have cR:=aJ;have fh:=aX;have gZ:=a_;have ag:=akp;have cl:=bx;have dy:=b9;have fD:=cL;have HB:=akB;clear akf aD aJ aX a_ akp bx b9 cL akB;(try clear hb);have aan:zu.cell? ⟨ai,0,none⟩=some (.int .i64 af):=(av ag.out 0).trans rfl;have aao:zu.cell? ⟨ai,1,none⟩=some (.slice aq aa.length ak):=(av ag.out 1).trans rfl;have aaU:=aH ag.out 0;have aaV:=aH ag.out 1;have aid:=kk.out;have aiP:=jO.out;have aie:=tT.out;have aiQ:=rA.out;have aap:zu.cell? ⟨aZ,0,none⟩=some (.slice uI kI.length vn):=(av cl.out 0).trans rfl;have aaW:=aH cl.out 0)|((with_reducible refine cZ (f:=186) rfl ?_);refine c_ (some 51) rfl rfl Try.func186 (by kernel_rfl) rfl #[.agg #[.int .i64 af,.slice aq aa.length ak],.slice uI kI.length vn,.slice uH jI.length oO] rfl gm ?_;(with_reducible refine (cF.calls k3 af _ _ aa _ _ kI _ _ jI t120 _ ?akn ?aT ?cn ?cw ?ak8 ?ak9 xJ.out).mono ?_);(case akn=>exact aC (Kd.bA bU.out HB.out));(case aT=>exact cG.out);(case cn=>exact aC ((Kd.bu cR.out).2.2));(case cw=>exact (Kd.bu cR.out).2.1);(case ak8=>exact aC ((Kd.bu fP.out).2.2));(case ak9=>exact (Kd.bu fP.out).2.1);rintro e jH ⟨aey,rfl,ake,hb⟩;refine ⟨_,rfl,?_⟩;have akf:=k0 (Kd.dV (aR fP.out) (Kd.bW ake) hb);have aD:=k0 (Kd.dV (aR eS.out) (Kd.bW ake) hb);have aJ:=k0 (Kd.dV (aR cR.out) (Kd.bW ake) hb);have aX:=k0 (Kd.dV (aR fh.out) (Kd.bW ake) hb);have a_:=k0 (Kd.dV (aR gZ.out) (Kd.bW ake) hb);have akp:=k0 (Kd.dL (Kd.xV (Kd.dW (Kd.dW (Kd.dW (Kd.dW (Kd.dW ake (Kd.cE (aR fP.out))) (Kd.cE (aR eS.out))) (Kd.cE (aR cR.out))) (Kd.cE (aR fh.out))) (Kd.cE (aR gZ.out))) (g:=akA) (o:=.cells #[.int .i64 gG] 2 (0,0)) bk) (aU bl));have bx:=k0 (akj (g:=ai) (o:=sO af aq aa ak 31) bk hb);have b9:=k0 (akj (g:=aZ) (o:=.cells #[.slice uI kI.length vn] 28 (0,0)) bk hb);have cL:=k0 (akj (g:=akq) (o:=.cells #[.slice fV cr.length eZ] 28 (0,0)) bk hb);have akB:=k0 (akj (g:=akA) (o:=.cells #[.int .i64 gG] 2 (0,0)) bk hb);have j9:=k0 (aI bl hb);clear fP;clear eS;clear cR;clear fh;clear gZ;clear ag;clear cl;clear dy;clear fD;clear HB;have fP:=akf;have eS:=aD;have cR:=aJ;have fh:=aX;have gZ:=a_;have pX:=akp;have ag:=bx;have cl:=b9;have dy:=cL;have fD:=akB;have HB:=j9;clear akf aD aJ aX a_ akp bx b9 cL akB j9;(try clear hb);(try clear ake);obtain ⟨ame,amk,X8⟩:=Kd.eK pX.out;subst X8;have aaq:jH.cell? ⟨aZ,0,none⟩=some (.slice uI kI.length vn):=(av cl.out 0).trans rfl;have aaX:=aH cl.out 0))
        go_roundg k3
        case measure=>have:=akl.out;have:=bz.out;have:=dg.out;omega
        case rel=>exact ⟨(t120),(.slice ame t120.length amk),H',⟨by have:=akl.out;have:=bz.out;have:=dg.out;omega⟩,⟨by (try simp only [cH]);(try simp only [eF]);(with_reducible repeat (first|apply Kd.bN|apply Kd.bQ|apply Kd.bn));exact Kd.bG (Kd.iJ (p:=⟨aZ,0,none⟩) (Kd.ji fP.out cl.out (by decide)) (fun _ hk=>hk.2) (.slice ame t120.length amk)) (fun _ hk=>⟨hk.1.1.1.1,⟨hk.1.2,⟨hk.1.1.1.2.2.1,hk.1.1.1.2.2.2⟩⟩⟩)⟩,⟨by (try simp only [cH]);(try simp only [eF]);(with_reducible repeat (first|apply Kd.bN|apply Kd.bQ|apply Kd.bn));exact Kd.bG (Kd.iJ (p:=⟨aZ,0,none⟩) (Kd.ji eS.out cl.out (by decide)) (fun _ hk=>hk.2) (.slice ame t120.length amk)) (fun _ hk=>⟨hk.1.1.1.1,⟨hk.1.2,hk.1.1.1.2.2⟩⟩)⟩,⟨by (try simp only [cH]);(try simp only [eF]);(with_reducible repeat (first|apply Kd.bN|apply Kd.bQ|apply Kd.bn));exact Kd.bG (Kd.iJ (p:=⟨aZ,0,none⟩) (Kd.ji pX.out cl.out (by decide)) (fun _ hk=>hk.2) (.slice ame t120.length amk)) (fun _ hk=>⟨hk.1.1.1.1.1.1.2,⟨hk.1.1.1.1.1.2,⟨hk.1.1.1.2,hk.1.2⟩⟩⟩)⟩,⟨by (try simp only [cH]);(try simp only [eF]);(with_reducible repeat (first|apply Kd.bN|apply Kd.bQ|apply Kd.bn));exact Kd.bG (Kd.iJ (p:=⟨aZ,0,none⟩) (Kd.ji fh.out cl.out (by decide)) (fun _ hk=>hk.2) (.slice ame t120.length amk)) (fun _ hk=>⟨hk.1.1.1.1,⟨hk.1.2,hk.1.1.1.2.2⟩⟩)⟩,⟨by (try simp only [cH]);(try simp only [eF]);(with_reducible repeat (first|refine ee ?_ _|refine ct ?_|refine dX ?_ _));refine fX ?_ gw.out _;exact bk⟩,⟨by (try simp only [cH]);(try simp only [eF]);(with_reducible repeat (first|refine ee ?_ _|refine ct ?_|refine dX ?_ _));refine nG (cs:=#[.slice uI kI.length vn]) ?_ 0 _ rfl;exact bk⟩,⟨by (try simp only [cH]);(try simp only [eF]);(with_reducible repeat (first|refine ee ?_ _|refine ct ?_|refine dX ?_ _));refine fX ?_ jO.out _;exact bk⟩,⟨by (try simp only [cH]);(try simp only [eF]);(with_reducible repeat (first|refine ee ?_ _|refine ct ?_|refine dX ?_ _));refine fX ?_ rA.out _;exact bk⟩,⟨bl⟩⟩
     rw [if_pos c38] at H
     have wH:=decide_eq_true c38
     (try simp only [cH,eF] at wH)
     clear c38
     replace H:=iS H;obtain ⟨c39,H⟩:=H
     have EC:=decide_eq_true c39
     clear c39
     replace H:=iS H;obtain ⟨c40,H⟩:=H
     have alx:=decide_eq_true c40
     (try simp only [cH,eF] at alx)
     clear c40
     by_cases c41:(rd cr jX) < gG
     case neg =>
      rw [if_neg c41] at H
      have Aa:decide ((rd cr jX) < gG)=false:=decide_eq_false c41
      clear c41
      have H':=k0 H
      clear H
      try go_wp2
      replace fP:=k0 (Kd.bn fP.out);replace eS:=k0 (Kd.bn eS.out);replace cR:=k0 (Kd.bn cR.out);replace fh:=k0 (Kd.bn fh.out);replace ag:=k0 (ct ag.out);replace cl:=k0 (ct cl.out);replace dy:=k0 (ct dy.out);replace fD:=k0 (ct fD.out);replace HB:=k0 (cP HB.out)
      have iF:0≤(jX:Int):=oD
      have iG:jX < (cr.length:Int):=oD
      obtain ⟨lR,e114,iZ⟩:=Kd.bH (Kd.bu fh.out).2.2 jX iF iG
      cases e114
      replace iF:=eq_true iF
      replace iG:=eq_true iG
      refine lJ (n:=6) (S:=fun w'=>w'.cell? ⟨akq,0,none⟩=some (.slice (some lR) cr.length eZ)∧w'.cell? ⟨akA,0,none⟩=some (.int .i64 gG)∧w'.cell? (lR.add (jX).toNat)=some (.int .i64 (rd cr jX))) (ds:=[]) (ba 6 0) (by kernel_rfl) rfl rfl ⟨(av dy.out 0).trans rfl,(av fD.out 0).trans rfl,iZ⟩ (fun hHeld=>?_)
      generalize wr.drew=w47 at fP eS cR fh ag cl dy fD HB iZ hHeld ⊢
      refine lZ (i:=1) (N:=some 35) (v:=?_) (a':=?_) (ba 6 2) rfl rfl (by kernel_rfl) (fun _ _ _ h=>h) (Or.inl ⟨by rfl,?_⟩) ?_ ?_
      rotate_left;· intro w';go_simp;with_reducible rfl
      rotate_left;· simp only [Act.put,zI,zZ,zS,akx,cu];rfl
      refine l5 (i:=0) (N:=some 34) (v:=?_) (a':=?_) (ba 6 3) rfl rfl (by kernel_rfl) (fun _ _ _ h=>h) (Or.inl ⟨by rfl,?_⟩) hHeld ?_ ?_
      rotate_left;· rintro w' ⟨s0,s1,s2⟩;go_simp;with_reducible rfl
      rotate_left;· simp only [Act.put,zI,zZ,zS,akx,cu];rfl
      refine lZ (i:=2) (N:=some 36) (v:=?_) (a':=?_) (ba 6 7) rfl rfl (by kernel_rfl) (fun _ _ _ h=>h) (Or.inl ⟨by rfl,?_⟩) ?_ ?_
      rotate_left;· intro w';go_simp;with_reducible rfl
      rotate_left;· simp only [Act.put,zI,zZ,zS,akx,cu];rfl
      refine l5 (i:=3) (N:=some 37) (v:=?_) (a':=?_) (ba 6 15) rfl rfl (by kernel_rfl) (fun _ _ _ h=>h) (Or.inl ⟨by rfl,?_⟩) hHeld ?_ ?_
      rotate_left;· rintro w' ⟨s0,s1,s2⟩;go_simp;with_reducible rfl
      rotate_left;· simp only [Act.put,zI,zZ,zS,akx,cu];rfl
      refine l5 (i:=4) (N:=some 38) (v:=?_) (a':=?_) (ba 6 31) rfl rfl (by kernel_rfl) (fun _ _ _ h=>h) (Or.inl ⟨by rfl,?_⟩) hHeld ?_ ?_
      rotate_left;· rintro w' ⟨s0,s1,s2⟩;go_simp;with_reducible rfl
      rotate_left;· simp only [Act.put,zI,zZ,zS,akx,cu];rfl
      refine lZ (i:=5) (N:=some 39) (v:=?_) (a':=?_) (ba 6 63) rfl rfl (by kernel_rfl) (fun _ _ _ h=>h) (Or.inl ⟨by rfl,?_⟩) ?_ ?_
      rotate_left;· intro w';go_simp;with_reducible rfl
      rotate_left;· simp only [Act.put,zI,zZ,zS,akx,cu];rfl
      refine lC (by kernel_rfl) ?_
      try go_wp2
      (try simp only [← eF])
      go_roundg k2
      case measure=>have:=akl.out;have:=bz.out;omega
      case rel=>exact ⟨(jI),(wrap64 (jX+1)),(gG),rs,H',⟨by have:=akl.out;have:=bz.out;omega⟩,⟨by (try simp only [cH]);(try simp only [eF]);(with_reducible repeat (first|apply Kd.bN|apply Kd.bQ|apply Kd.bn));exact fP.out⟩,⟨by (try simp only [cH]);(try simp only [eF]);(with_reducible repeat (first|apply Kd.bN|apply Kd.bQ|apply Kd.bn));exact eS.out⟩,⟨by (try simp only [cH]);(try simp only [eF]);(with_reducible repeat (first|apply Kd.bN|apply Kd.bQ|apply Kd.bn));exact cR.out⟩,⟨by (try simp only [cH]);(try simp only [eF]);(with_reducible repeat (first|apply Kd.bN|apply Kd.bQ|apply Kd.bn));exact fh.out⟩,⟨by (try simp only [cH]);(try simp only [eF]);exact bk⟩,⟨by (try simp only [cH]);(try simp only [eF]);exact bk⟩,⟨by (try simp only [cH]);(try simp only [eF]);exact bk⟩,⟨by (try simp only [cH]);(try simp only [eF]);exact bk⟩,⟨bl⟩⟩
     rw [if_pos c41] at H
     have Aa:=decide_eq_true c41
     clear c41
     replace H:=iS H;obtain ⟨c42,H⟩:=H
     have alE:=decide_eq_true c42
     (try simp only [cH,eF] at alE)
     clear c42
     obtain ⟨dU,gf⟩:∃ y_:List Int,y_=(jI.set (jX:Int).toNat 1):=⟨_,rfl⟩
     replace H:(akr.l1 k2 a2 dU cr (qz.length:Int) (wrap64 (jX+1)) af aa qw cr gG)=some r:=by first|(rw [gf];with_reducible exact H)|(have ay:=(Option.bind_some _ _).symm.trans H;rw [gf];with_reducible exact ay)|(have ay:=(Option.bind_some _ _).symm.trans H;with_reducible exact ay)|with_reducible exact H|(rw [gf];exact H)|exact H
     have mV:=k0 gf
     clear gf
     have H':=k0 H
     clear H
     try go_wp2
     replace fP:=k0 (Kd.bn fP.out);replace eS:=k0 (Kd.bn eS.out);replace cR:=k0 (Kd.bn cR.out);replace fh:=k0 (Kd.bn fh.out);replace ag:=k0 (ct ag.out);replace cl:=k0 (ct cl.out);replace dy:=k0 (ct dy.out);replace fD:=k0 (ct fD.out);replace HB:=k0 (cP HB.out)
     have iF:0≤(jX:Int):=oD
     have iG:jX < (cr.length:Int):=oD
     obtain ⟨lR,e114,iZ⟩:=Kd.bH (Kd.bu fh.out).2.2 jX iF iG
     cases e114
     replace iF:=eq_true iF
     replace iG:=eq_true iG
     refine lJ (n:=6) (S:=fun w'=>w'.cell? ⟨akq,0,none⟩=some (.slice (some lR) cr.length eZ)∧w'.cell? ⟨akA,0,none⟩=some (.int .i64 gG)∧w'.cell? (lR.add (jX).toNat)=some (.int .i64 (rd cr jX))) (ds:=[]) (ba 6 0) (by kernel_rfl) rfl rfl ⟨(av dy.out 0).trans rfl,(av fD.out 0).trans rfl,iZ⟩ (fun hHeld=>?_)
     generalize wr.drew=Lk at fP eS cR fh ag cl dy fD HB iZ hHeld ⊢
     refine lZ (i:=1) (N:=some 35) (v:=?_) (a':=?_) (ba 6 2) rfl rfl (by kernel_rfl) (fun _ _ _ h=>h) (Or.inl ⟨by rfl,?_⟩) ?_ ?_
     rotate_left;· intro w';go_simp;with_reducible rfl
     rotate_left;· simp only [Act.put,zI,zZ,zS,akx,cu];rfl
     refine l5 (i:=0) (N:=some 34) (v:=?_) (a':=?_) (ba 6 3) rfl rfl (by kernel_rfl) (fun _ _ _ h=>h) (Or.inl ⟨by rfl,?_⟩) hHeld ?_ ?_
     rotate_left;· rintro w' ⟨s0,s1,s2⟩;go_simp;with_reducible rfl
     rotate_left;· simp only [Act.put,zI,zZ,zS,akx,cu];rfl
     refine lZ (i:=2) (N:=some 36) (v:=?_) (a':=?_) (ba 6 7) rfl rfl (by kernel_rfl) (fun _ _ _ h=>h) (Or.inl ⟨by rfl,?_⟩) ?_ ?_
     rotate_left;· intro w';go_simp;with_reducible rfl
     rotate_left;· simp only [Act.put,zI,zZ,zS,akx,cu];rfl
     refine l5 (i:=3) (N:=some 37) (v:=?_) (a':=?_) (ba 6 15) rfl rfl (by kernel_rfl) (fun _ _ _ h=>h) (Or.inl ⟨by rfl,?_⟩) hHeld ?_ ?_
     rotate_left;· rintro w' ⟨s0,s1,s2⟩;go_simp;with_reducible rfl
     rotate_left;· simp only [Act.put,zI,zZ,zS,akx,cu];rfl
     refine l5 (i:=4) (N:=some 38) (v:=?_) (a':=?_) (ba 6 31) rfl rfl (by kernel_rfl) (fun _ _ _ h=>h) (Or.inl ⟨by rfl,?_⟩) hHeld ?_ ?_
     rotate_left;· rintro w' ⟨s0,s1,s2⟩;go_simp;with_reducible rfl
     rotate_left;· simp only [Act.put,zI,zZ,zS,akx,cu];rfl
     refine lZ (i:=5) (N:=some 39) (v:=?_) (a':=?_) (ba 6 63) rfl rfl (by kernel_rfl) (fun _ _ _ h=>h) (Or.inl ⟨by rfl,?_⟩) ?_ ?_
     rotate_left;· intro w';go_simp;with_reducible rfl
     rotate_left;· simp only [Act.put,zI,zZ,zS,akx,cu];rfl
     refine lC (by kernel_rfl) ?_
     have zj:0≤(jX:Int):=oD
     have zk:(jX:Int) < ((jI.length:Int):Int):=oD
     obtain ⟨vr,wM,EP,Ov,YS,agx,Mq⟩:=Kd.akT fP.out (by omega)
     (first|cases EP|(injection EP with bf dn dm;(first|subst bf|(injection bf with bf;subst bf));subst dm;clear dn))
     have TP:=k0 Ov
     have aff:=k0 Mq
     clear Ov YS Mq
     obtain ⟨Q2,ahe⟩:=Kd.jD 0 fP.out (jX:Int) zj zk
     replace zj:=eq_true zj
     replace zk:=eq_true zk
     obtain ⟨aji,ajl⟩:=Kd.jD 0 fP.out (jX:Int) oD oD
     have G8:=Kd.kP fP.out (jX:Int) 1
     try go_wp2_with (first|((with_reducible refine lf (t:=2) (p:=42) rfl ?_);refine lq (t:=2) (p:=42) (v:=?aj_) (w1:=(Lk.setCell ⟨vr,(jX:Int).toNat,none⟩ (.int .i64 1))) ?hg ?ho ?hn ?hr ?_;(case ho=>rfl);(case hg=>rfl);(case hn=>rfl);(case hr=>first|(go_simp;done)|(go_simp;rfl));intro AV hw;have hg:Lk.grownBy AV (some vr):=(by rw [hw];exact G8.2);have dZ:Kd.R (Kd.int .i64) 2 AV w.heap.size (fun k_=>some k_ ≠ (.slice (some lR) cr.length eZ:Value).ownBlock∧some k_ ≠ (u109000:Value).ownBlock∧some k_ ≠ (.slice (some lR) cr.length eZ:Value).ownBlock∧k_ ≠ akA) (.slice (some ⟨vr,0,none⟩) jI.length oO) dU:=(by rw [hw,mV.out];exact G8.1);clear G8;have akf:=k0 (dZ);have aD:=k0 (Kd.o7 (v:=(.slice (some ⟨vr,0,none⟩) jI.length oO)) (v1:=(.slice (some ⟨vr,0,none⟩) jI.length oO)) (ok:=(fun k_=>some k_ ≠ (u109000:Value).ownBlock∧k_ ≠ akA)) (by (with_reducible repeat (first|apply Kd.bN|apply Kd.bQ|apply Kd.bn));exact Kd.bG eS.out (fun _ hk=>⟨⟨hk.2.1,hk.2.2⟩,hk.1⟩)) hg (.inl rfl));have aJ:=k0 (Kd.o7 (v:=(.slice (some ⟨vr,0,none⟩) jI.length oO)) (v1:=(.slice (some ⟨vr,0,none⟩) jI.length oO)) (ok:=(fun k_=>some k_ ≠ (.slice (some lR) cr.length eZ:Value).ownBlock∧some k_ ≠ (.slice (some lR) cr.length eZ:Value).ownBlock∧k_ ≠ akA)) (by (with_reducible repeat (first|apply Kd.bN|apply Kd.bQ|apply Kd.bn));exact Kd.bG cR.out (fun _ hk=>⟨⟨hk.2.1,⟨hk.2.2.1,hk.2.2.2⟩⟩,hk.1⟩)) hg (.inl rfl));have aX:=k0 (Kd.o7 (v:=(.slice (some ⟨vr,0,none⟩) jI.length oO)) (v1:=(.slice (some ⟨vr,0,none⟩) jI.length oO)) (ok:=(fun k_=>some k_ ≠ (u109000:Value).ownBlock∧k_ ≠ akA)) (by (with_reducible repeat (first|apply Kd.bN|apply Kd.bQ|apply Kd.bn));exact Kd.bG fh.out (fun _ hk=>⟨⟨hk.2.1,hk.2.2⟩,hk.1⟩)) hg (.inl rfl));have a_:=k0 (jl (g:=ai) (o:=sO af aq aa ak 31) bk hg (Kd.iD fP.out ag.out (by decide)));have akp:=k0 (jl (g:=aZ) (o:=.cells #[u109000] 28 (0,0)) bk hg (Kd.iD fP.out cl.out (by decide)));have bx:=k0 (jl (g:=akq) (o:=.cells #[.slice (some lR) cr.length eZ] 28 (0,0)) bk hg (Kd.iD fP.out dy.out (by decide)));have b9:=k0 (jl (g:=akA) (o:=.cells #[.int .i64 gG] 2 (0,0)) bk hg (Kd.Vj fP.out (fun _ hk=>hk.2.2.2)));have cL:=k0 ((by rw [hw];exact dM (HB.out) TP.out:Below w.heap.size w AV));clear fP;clear eS;clear cR;clear fh;clear ag;clear cl;clear dy;clear fD;clear HB;have fP:=akf;have eS:=aD;have cR:=aJ;have fh:=aX;have ag:=a_;have cl:=akp;have dy:=bx;have fD:=b9;have HB:=cL;clear akf aD aJ aX a_ akp bx b9 cL;clear hg hw dZ))
     (try simp only [← eF])
     go_roundg k2
     case measure=>have:=akl.out;have:=bz.out;omega
     case rel=>exact ⟨(dU),(wrap64 (jX+1)),(gG),rs,H',⟨by have:=akl.out;have:=bz.out;omega⟩,⟨by (try simp only [cH]);(try simp only [eF]);(with_reducible repeat (first|apply Kd.bN|apply Kd.bQ|apply Kd.bn));exact fP.out⟩,⟨by (try simp only [cH]);(try simp only [eF]);(with_reducible repeat (first|apply Kd.bN|apply Kd.bQ|apply Kd.bn));exact Kd.bG eS.out (fun _ hk=>⟨hk.2,⟨hk.1.1,hk.1.2⟩⟩)⟩,⟨by (try simp only [cH]);(try simp only [eF]);(with_reducible repeat (first|apply Kd.bN|apply Kd.bQ|apply Kd.bn));exact Kd.bG cR.out (fun _ hk=>⟨hk.2,⟨hk.1.1,⟨hk.1.2.1,hk.1.2.2⟩⟩⟩)⟩,⟨by (try simp only [cH]);(try simp only [eF]);(with_reducible repeat (first|apply Kd.bN|apply Kd.bQ|apply Kd.bn));exact Kd.bG fh.out (fun _ hk=>⟨hk.2,⟨hk.1.1,hk.1.2⟩⟩)⟩,⟨by (try simp only [cH]);(try simp only [eF]);exact bk⟩,⟨by (try simp only [cH]);(try simp only [eF]);exact bk⟩,⟨by (try simp only [cH]);(try simp only [eF]);exact bk⟩,⟨by (try simp only [cH]);(try simp only [eF]);exact bk⟩,⟨bl⟩⟩
/-! ### F95: function 95 -/
def iq.l0 : Nat → List Int → List Int → Int → Int → Option (Bool)
 | 0,_,_,_,_=>none
 | k+1,x0,x1,fK,gH=>if gH < fK then (if 0≤gH then (if gH < (x0.length:Int) then (if gH < (x1.length:Int) then (if (rd x0 gH)=(rd x1 gH) then (iq.l0 k x0 x1 fK (wrap64 (gH+1))) else (some false)) else (none)) else (none)) else (none)) else (some true)
def iq.f (k:Nat) (l0:List Int) (l1:List Int):Option (Bool):=if (l0.length:Int)=(l1.length:Int) then (iq.l0 k l0 l1 (l0.length:Int) 0) else (some false)
theorem iq.b8 : ∀ k, (∀ y0 y1 y2 y3, aj (iq.l0 k y0 y1 y2 y3) (iq.l0 (k + 1) y0 y1 y2 y3))
 | 0=>fun _ _ _ _ r h=>by simp [iq.l0] at h
 | k+1=>by
  have akk:=iq.b8 k
  ·intro y0 y1 y2 y3
   unfold iq.l0
   repeat' first
    | (with_reducible first|exact akk _ _ _ _|exact aj.refl _|exact aj.none _|refine aj.ite ?_ ?_|refine aj.bind ?_ (fun _=>?_))
    | exact akk _ _ _ _|exact aj.none _|refine aj.ite ?_ ?_|refine aj.bind ?_ (fun _=>?_)
theorem iq.mono:∀ a0 a1 k,aj (iq.f k a0 a1) (iq.f (k+1) a0 a1):=by
 intro a0 a1 k
 have akk:=iq.b8 k
 unfold iq.f
 repeat' first
  | (with_reducible first|exact akk _ _ _ _|exact aj.refl _|exact aj.none _|refine aj.ite ?_ ?_|refine aj.bind ?_ (fun _=>?_))
  | exact akk _ _ _ _|exact aj.none _|refine aj.ite ?_ ?_|refine aj.bind ?_ (fun _=>?_)
set_option maxHeartbeats 8000000 in
set_option maxRecDepth 100000 in
theorem iq.calls (k : Nat) (A0 : Option Addr) (c0 : Nat) (l0 : List Int) (A1 : Option Addr) (c1 : Nat) (l1 : List Int) (r : Bool) (w : World) (dB : Kd.C (Kd.int .i64) w A0 l0.length l0) (hc0 : l0.length ≤ c0) (cQ : Kd.C (Kd.int .i64) w A1 l1.length l1) (ef : l1.length ≤ c1) (h : iq.f k l0 l1 = some r) :
  Calls Try.prog 95 #[.slice A0 l0.length c0,.slice A1 l1.length c1] w fun e w'=>e=.returned (.bool r)∧bP w w':=by
 have fj:=k0 dB
 have ki:=k0 hc0
 clear dB hc0
 have ek:=k0 cQ
 have jZ:=k0 ef
 clear cQ ef
 have H:(if (l0.length:Int)=(l1.length:Int) then (iq.l0 k l0 l1 (l0.length:Int) 0) else (some false))=some r:=h
 clear h
 by_cases c3:(l0.length:Int)=(l1.length:Int)
 case neg =>
  rw [if_neg c3] at H
  have iE:((l0.length:Int) == (l1.length:Int))=false:=beq_eq_false_iff_ne.mpr c3
  have k7:((l0.length:Int) != (l1.length:Int))=true:=bne_iff_ne.mpr c3
  have su:(l0.length == l1.length)=false:=by first|simpa using c3|(simp at c3 ⊢;omega)
  obtain rfl:=Option.some.inj H
  go_enter Try.func95,Try.ntmps95
  go_wp2
  repeat (go_quiet (fail);try go_wp2)
  go_ret
  exact ⟨by first|rfl|(simp;done)|(simp [*];done),by repeat (first|exact bP.refl _|apply bP.step)⟩
 rw [if_pos c3] at H
 have iE:((l0.length:Int) == (l1.length:Int))=true:=beq_iff_eq.mpr c3
 have k7:((l0.length:Int) != (l1.length:Int))=false:=bne_eq_false_iff_eq.mpr c3
 have su:(l0.length == l1.length)=true:=by first|simpa using c3|(simp at c3 ⊢;omega)
 clear c3
 have H':=k0 H
 clear H
 go_enter Try.func95,Try.ntmps95
 go_wp2
 repeat (go_quiet (fail);try go_wp2)
 go_loopg [13] k (fun kq zo w'=>∃ (aki:Int),zo=.int .i64 aki∧au (iq.l0 kq l0 l1 (l0.length:Int) aki=some r)∧au (kq≤k)∧bP w w')
 case atStart=>exact ⟨(0),rs,H',⟨Nat.le_refl _⟩,by repeat (first|exact bP.refl _|apply bP.step)⟩
 case round =>
  clear H'
  (try clear c3);(try clear iE);(try clear k7);(try clear su)
  obtain ⟨aki,rfl,HA,akl,⟨m1,rfl⟩⟩:=hrel
  cases gk with
  | zero=>exact absurd HA.out (by simp [iq.l0])
  | succ k1 =>
   have H:=HA.out
   clear HA
   simp only [iq.l0] at H
   by_cases c4:aki < (l0.length:Int)
   case neg =>
    rw [if_neg c4] at H
    have eA:decide (aki < (l0.length:Int))=false:=decide_eq_false c4
    clear c4
    obtain rfl:=Option.some.inj H
    go_wp2
    repeat (go_quiet (fail);try go_wp2)
    go_ret
    exact ⟨by first|rfl|(simp;done)|(simp [*];done),by repeat (first|exact bP.refl _|apply bP.step)⟩
   rw [if_pos c4] at H
   have eA:=decide_eq_true c4
   clear c4
   replace H:=iS H;obtain ⟨c5,H⟩:=H
   have iW:=decide_eq_true c5
   clear c5
   replace H:=iS H;obtain ⟨c6,H⟩:=H
   have akJ:=decide_eq_true c6
   clear c6
   replace H:=iS H;obtain ⟨c7,H⟩:=H
   have gK:=decide_eq_true c7
   clear c7
   by_cases c8:(rd l0 aki)=(rd l1 aki)
   case neg =>
    rw [if_neg c8] at H
    have iX:((rd l0 aki) == (rd l1 aki))=false:=beq_eq_false_iff_ne.mpr c8
    have BG:((rd l0 aki) != (rd l1 aki))=true:=bne_iff_ne.mpr c8
    obtain rfl:=Option.some.inj H
    have eU:0≤(aki:Int):=oD
    have eV:aki < (l0.length:Int):=oD
    obtain ⟨qM,e101,pH⟩:=Kd.bH fj.out aki eU eV
    cases e101
    replace eU:=eq_true eU
    replace eV:=eq_true eV
    have dr:0≤(aki:Int):=oD
    have dw:aki < (l1.length:Int):=oD
    obtain ⟨oa,e102,akN⟩:=Kd.bH ek.out aki dr dw
    cases e102
    replace dr:=eq_true dr
    replace dw:=eq_true dw
    go_wp2
    repeat (go_quiet (fail);try go_wp2)
    go_ret
    exact ⟨by first|rfl|(simp;done)|(simp [*];done),by repeat (first|exact bP.refl _|apply bP.step)⟩
   rw [if_pos c8] at H
   have iX:((rd l0 aki) == (rd l1 aki))=true:=beq_iff_eq.mpr c8
   have BG:((rd l0 aki) != (rd l1 aki))=false:=bne_eq_false_iff_eq.mpr c8
   clear c8
   have H':=k0 H
   clear H
   have eU:0≤(aki:Int):=oD
   have eV:aki < (l0.length:Int):=oD
   obtain ⟨qM,e101,pH⟩:=Kd.bH fj.out aki eU eV
   cases e101
   replace eU:=eq_true eU
   replace eV:=eq_true eV
   have dr:0≤(aki:Int):=oD
   have dw:aki < (l1.length:Int):=oD
   obtain ⟨oa,e102,akN⟩:=Kd.bH ek.out aki dr dw
   cases e102
   replace dr:=eq_true dr
   replace dw:=eq_true dw
   go_wp2
   repeat (go_quiet (fail);try go_wp2)
   go_roundg k1
   case measure=>have:=akl.out;omega
   case rel=>exact ⟨(wrap64 (aki+1)),rs,H',⟨by have:=akl.out;omega⟩,by repeat (first|exact bP.refl _|apply bP.step)⟩
end Go.Proofs.Ytoebojnhchocaaa.C
/- Set with little white space, by a program. -/
