/- The functions that one law reaches, each as a Lean function, and that Go's call comes to what it says. Condition of each: that the Lean function answers (is not none). -/
import Derived.Test.YtoebojnhchocaaaBx0
import Derived.Test.YtoebojnhchocaaaBx11
import Derived.Test.YtoebojnhchocaaaBx12
import Derived.Test.YtoebojnhchocaaaBx14
import Derived.Test.YtoebojnhchocaaaBx16
import Derived.Test.YtoebojnhchocaaaBx17
import Derived.Test.YtoebojnhchocaaaBx18
namespace Go.Proofs.Ytoebojnhchocaaa.B
open Go.RowKit Go.Proofs.bC.eg Go.Proofs.bC.iZ Go.Proofs.bC.jr
attribute [local go_sem] max2_int min2_int max_two min_two max_three min_three max_four min_four   -- for this text's walks alone
set_option linter.unusedVariables false
set_option linter.unusedSimpArgs false
/-! ### F93: function 93 -/
theorem S1 (w:World) (a:Option Addr) (n c:Nat):(binOp .neq 28 (.slice a n c) (.slice none 0 0)).run Try.prog w=.ok (.bool (!a.isNone)) w:=run_neq_slice_nil w 28 2 a n c Try.underlying28
mutual
def alu.l0 : Nat → Int → List Int → Int → List (List Int) → List Int → Int → Option (List Int)
 | 0,_,_,_,_,_,_=>none
 | k+1,x2,qd,bU,bN,qU,uA=>if uA > 0 then (if 0≤bU then (if (bU:Int).toNat≤35184372088832 then ((some (List.replicate (bU:Int).toNat 0:List Int)).bind fun qY=>(alu.l1 k x2 qY qd (qY.length:Int) 0 bU bN qU qd uA)) else (none)) else (none)) else ((alv.f k bU bN qU x2).bind fun t123=>(alu.l3 k x2 t123 bU bN qU))
def alu.l1 : Nat → Int → List Int → List Int → Int → Int → Int → List (List Int) → List Int → List Int → Int → Option (List Int)
 | 0,_,_,_,_,_,_,_,_,_,_=>none
 | k+1,x2,alB,qd,Mj,yy,bU,bN,qU,yx,uA=>if yy < Mj then (if 0≤yy then (if yy < (yx.length:Int) then (if (rd yx yy) < uA then (if yy < (alB.length:Int) then (alu.l1 k x2 (alB.set (yy:Int).toNat 1) qd Mj (wrap64 (yy+1)) bU bN qU yx uA) else (none)) else (alu.l1 k x2 alB qd Mj (wrap64 (yy+1)) bU bN qU yx uA)) else (none)) else (none)) else (alu.l2 k x2 alB qd bU bN qU yx uA)
def alu.l2 : Nat → Int → List Int → List Int → Int → List (List Int) → List Int → List Int → Int → Option (List Int)
 | 0,_,_,_,_,_,_,_,_=>none
 | k+1,x2,alB,qd,bU,bN,qU,yx,uA=>(iu.f k bU bN).bind fun t116=>((oc.f k t116 yx uA qU).bind fun t119=>(if t119=true then ((cG.f k bU bN qU alB).bind fun t120=>(alu.l2 k x2 alB qd bU bN t120 yx uA)) else (alu.l0 k x2 qd bU bN qU (wrap64 (uA - 1)))))
def alu.l3 : Nat → Int → List Int → Int → List (List Int) → List Int → Option (List Int)
 | 0,_,_,_,_,_=>none
 | k+1,x2,gN,bU,bN,qU=>if (gN.length:Int)=0 then (some qU) else ((cG.f k bU bN qU gN).bind fun t126=>((alv.f k bU bN t126 x2).bind fun t129=>(alu.l3 k x2 t129 bU bN t126)))
end
def alu.f (k:Nat) (af:Int) (aa:List (List Int)) (l1:List Int) (a2:Int):Option (List Int):=(cw.f k af aa l1 a2).bind fun t102=>((cK.f k af aa a2).bind fun t105=>(alu.l0 k a2 t105 af aa t102 af))
theorem alu.cj : ∀ k, (∀ y0 y1 y2 y3 y4 y5, aj (alu.l0 k y0 y1 y2 y3 y4 y5) (alu.l0 (k + 1) y0 y1 y2 y3 y4 y5)) ∧ (∀ y0 y1 y2 y3 y4 y5 y6 y7 y8 y9, aj (alu.l1 k y0 y1 y2 y3 y4 y5 y6 y7 y8 y9) (alu.l1 (k + 1) y0 y1 y2 y3 y4 y5 y6 y7 y8 y9)) ∧ (∀ y0 y1 y2 y3 y4 y5 y6 y7, aj (alu.l2 k y0 y1 y2 y3 y4 y5 y6 y7) (alu.l2 (k + 1) y0 y1 y2 y3 y4 y5 y6 y7)) ∧ (∀ y0 y1 y2 y3 y4, aj (alu.l3 k y0 y1 y2 y3 y4) (alu.l3 (k + 1) y0 y1 y2 y3 y4))
 | 0=>⟨fun _ _ _ _ _ _ r h=>by simp [alu.l0] at h,fun _ _ _ _ _ _ _ _ _ _ r h=>by simp [alu.l1] at h,fun _ _ _ _ _ _ _ _ r h=>by simp [alu.l2] at h,fun _ _ _ _ _ r h=>by simp [alu.l3] at h⟩
 | k+1=>by
  obtain ⟨ali,ih1,ih2,ih3⟩:=alu.cj k
  refine ⟨?_, ?_, ?_, ?_⟩ <;> intros <;> (first | unfold alu.l0 | unfold alu.l1 | unfold alu.l2 | unfold alu.l3) <;> repeat' first
   | (with_reducible first|exact ali _ _ _ _ _ _|exact ih1 _ _ _ _ _ _ _ _ _ _|exact ih2 _ _ _ _ _ _ _ _|exact ih3 _ _ _ _ _|exact cK.mono _ _ _ _|exact cG.mono _ _ _ _ _|exact iu.mono _ _ _|exact cw.mono _ _ _ _ _|exact alv.mono _ _ _ _ _|exact oc.mono _ _ _ _ _|exact aj.refl _|exact aj.none _|refine aj.ite ?_ ?_|refine aj.bind ?_ (fun _=>?_))
   | exact ali _ _ _ _ _ _|exact ih1 _ _ _ _ _ _ _ _ _ _|exact ih2 _ _ _ _ _ _ _ _|exact ih3 _ _ _ _ _|exact cK.mono _ _ _ _|exact cG.mono _ _ _ _ _|exact iu.mono _ _ _|exact cw.mono _ _ _ _ _|exact alv.mono _ _ _ _ _|exact oc.mono _ _ _ _ _|exact aj.none _|refine aj.ite ?_ ?_|refine aj.bind ?_ (fun _=>?_)
theorem alu.mono:∀ a0 a1 a2 a3 k,aj (alu.f k a0 a1 a2 a3) (alu.f (k+1) a0 a1 a2 a3):=by
 intro a0 a1 a2 a3 k
 obtain ⟨ali,ih1,ih2,ih3⟩:=alu.cj k
 unfold alu.f
 repeat' first
  | (with_reducible first|exact ali _ _ _ _ _ _|exact ih1 _ _ _ _ _ _ _ _ _ _|exact ih2 _ _ _ _ _ _ _ _|exact ih3 _ _ _ _ _|exact cK.mono _ _ _ _|exact cG.mono _ _ _ _ _|exact iu.mono _ _ _|exact cw.mono _ _ _ _ _|exact alv.mono _ _ _ _ _|exact oc.mono _ _ _ _ _|exact aj.refl _|exact aj.none _|refine aj.ite ?_ ?_|refine aj.bind ?_ (fun _=>?_))
  | exact ali _ _ _ _ _ _|exact ih1 _ _ _ _ _ _ _ _ _ _|exact ih2 _ _ _ _ _ _ _ _|exact ih3 _ _ _ _ _|exact cK.mono _ _ _ _|exact cG.mono _ _ _ _ _|exact iu.mono _ _ _|exact cw.mono _ _ _ _ _|exact alv.mono _ _ _ _ _|exact oc.mono _ _ _ _ _|exact aj.none _|refine aj.ite ?_ ?_|refine aj.bind ?_ (fun _=>?_)
def alu.T1:Bool × List (List Nat × List Nat):=(true,[([],[]),([],[]),([],[]),([0,1,2],[0,1,2]),([],[]),([],[]),([4,5,3],[4,5]),([],[]),([],[]),([7,3,6,0,1,2,3,7,8],[3,7]),([8,6,9,0,1,2,3,4,5,6,7,8,9],[6,8])])
def alu.B1:List Nat:=[0,0,0,7,0,0,63,0,0,511,1023]
theorem alu.aeS:gY .any (opsOf Try.f93 1)=alu.T1:=by kernel_rfl
theorem alu.an8:nV alu.T1.2 alu.B1=true:=by kernel_rfl
set_option maxHeartbeats 8000000 in
set_option maxRecDepth 100000 in
theorem alu.calls (k : Nat) (af : Int) (au : Option Addr) (aq : Nat) (aa : List (List Int)) (A1 : Option Addr) (c1 : Nat) (l1 : List Int) (a2 : Int) (r : List Int) (w : World) (cl : Kd.C (Kd.slice 2 (Kd.int .i64)) w au aa.length aa) (cn : aa.length ≤ aq) (cE : Kd.C (Kd.int .i64) w A1 l1.length l1) (dW : l1.length ≤ c1) (h : alu.f k af aa l1 a2 = some r) :
  Calls Try.prog 93 #[.agg #[.int .i64 af,.slice au aa.length aq],.slice A1 l1.length c1,.int .i64 a2] w fun e w'=>∃ cF:Value,e=.returned (cF)∧Kd.R (Kd.int .i64) 2 w' w.heap.size (fun _=>True) cF r∧Below w.heap.size w w':=by
 have kF:=Try.underlying31
 have alx:=k0 cl
 have di:=k0 cn
 clear cl cn
 have eP:=k0 cE
 have nk:=k0 dW
 clear cE dW
 have HB:=k0 (Below.refl w.heap.size w)
 have H:((cw.f k af aa l1 a2).bind fun t102=>((cK.f k af aa a2).bind fun t105=>(alu.l0 k a2 t105 af aa t102 af)))=some r:=h
 clear h
 replace H:=Option.bind_eq_some_iff.mp H
 obtain ⟨t102,jH,H⟩:=H
 replace H:((cK.f k af aa a2).bind fun t105=>(alu.l0 k a2 t105 af aa t102 af))=some r:=H
 have A4:=k0 jH
 clear jH
 replace H:=Option.bind_eq_some_iff.mp H
 obtain ⟨t105,wY,H⟩:=H
 replace H:(alu.l0 k a2 t105 af aa t102 af)=some r:=H
 have A5:=k0 wY
 clear wY
 have H':=k0 H
 clear H
 go_enter Try.func93,Try.ntmps93
 try go_wp2_with (first|((with_reducible refine cy (N:=3) rfl ?_);refine ec ?hg (N:=3) ?hd (cs:=#[.int .i64 af,.slice au aa.length aq]) (t:=31) ?hr ?_;(case hd=>rfl);(case hg=>rfl);(case hr=>first|(go_simp;done)|(go_simp;rfl));intro ai hg w6 aJ hb;have ah:=k0 (aJ);have cr:=k0 ((by rw [hg];exact (aU bl):w.heap.size≤ai));have eL:=cr;replace HB:=k0 (aG bl hb);clear hb aJ hg))
 replace ah:=k0 (bJ ah.out);replace HB:=k0 (bH HB.out)
 refine nT (n:=11) (S:=fun w'=>w'.cell? ⟨ai,0,none⟩=some (.int .i64 af)∧w'.cell? ⟨ai,1,none⟩=some (.slice au aa.length aq)) (ds:=[]) (ba 11 0) (by kernel_rfl) rfl rfl ⟨(av ah.out 0).trans rfl,(av ah.out 1).trans rfl⟩ (fun hHeld=>?_);refine rQ alu.aeS alu.an8 (fun alc dG=>?_)
 generalize w6.drew=w7 at ah HB hHeld ⊢
 refine pu 1 (some 14) (ba 11 2) alc (h:=?_)
 refine pu 2 (some 15) (ba 11 6) alc (h:=?_)
 refine pu 5 (some 18) (ba 11 38) alc (h:=?_)
 refine ta 0 (some 13) (ba 11 39) alc dG hHeld (hy:=Or.inl ⟨by rfl,by rintro w' ⟨s0,s1⟩;go_simp;with_reducible rfl⟩) (h:=?_)
 refine ta 4 (some 17) (ba 11 55) alc dG hHeld (hy:=Or.inl ⟨by rfl,by rintro w' ⟨s0,s1⟩;go_simp;with_reducible rfl⟩) (h:=?_)
 refine uk (σ:=Value × Value × Nat × Nat) 2 (ba 11 511) (fun s_=>[(16,s_.1),(19,s_.2.1),(7,.pointer (some ⟨s_.2.2.1,0,none⟩)),(8,.pointer (some ⟨s_.2.2.2,0,none⟩))]) (fun s_ w'=>(w'.cell? ⟨ai,0,none⟩=some (.int .i64 af)∧w'.cell? ⟨ai,1,none⟩=some (.slice au aa.length aq))∧(Kd.R (Kd.int .i64) 2 w' w.heap.size (fun k_=>some k_ ≠ (s_.2.1:Value).ownBlock) s_.1 t102)∧(Kd.R (Kd.int .i64) 2 w' w.heap.size (fun k_=>some k_ ≠ (s_.1:Value).ownBlock) s_.2.1 t105)∧(w'.heap[ai]?=some (sO af au aa aq 31))∧(w'.heap[s_.2.2.1]?=some (.cells #[.slice none 0 0] 28 (0,0)))∧(w'.heap[s_.2.2.2]?=some (.cells #[.slice none 0 0] 28 (0,0)))∧(w.heap.size≤s_.2.2.1)∧(w.heap.size≤s_.2.2.1)∧(ai ≠ s_.2.2.1)∧(s_.2.2.1 ≠ ai)∧(s_.2.2.2 ≠ s_.2.2.1)∧(s_.2.2.1 ≠ s_.2.2.2)∧(w.heap.size≤s_.2.2.2)∧(w.heap.size≤s_.2.2.2)∧(ai ≠ s_.2.2.2)∧(s_.2.2.2 ≠ ai)∧(Below w.heap.size w w')) ?_ ?_
 rotate_left
 ·intro JY
  refine uk (σ:=Value × Value × Nat) 3 (ba 11 255) (fun s_=>[(16,s_.1),(19,s_.2.1),(7,.pointer (some ⟨s_.2.2,0,none⟩))]) (fun s_ w'=>(w'.cell? ⟨ai,0,none⟩=some (.int .i64 af)∧w'.cell? ⟨ai,1,none⟩=some (.slice au aa.length aq))∧(Kd.R (Kd.int .i64) 2 w' w.heap.size (fun k_=>some k_ ≠ (s_.2.1:Value).ownBlock) s_.1 t102)∧(Kd.R (Kd.int .i64) 2 w' w.heap.size (fun k_=>some k_ ≠ (s_.1:Value).ownBlock) s_.2.1 t105)∧(w'.heap[ai]?=some (sO af au aa aq 31))∧(w'.heap[s_.2.2]?=some (.cells #[.slice none 0 0] 28 (0,0)))∧(w.heap.size≤s_.2.2)∧(w.heap.size≤s_.2.2)∧(ai ≠ s_.2.2)∧(s_.2.2 ≠ ai)∧(Below w.heap.size w w')) ?_ ?_
  rotate_left
  ·intro PU
   refine uk (σ:=Value × Value × Nat) 3 (ba 11 383) (fun s_=>[(16,s_.1),(19,s_.2.1),(8,.pointer (some ⟨s_.2.2,0,none⟩))]) (fun s_ w'=>(w'.cell? ⟨ai,0,none⟩=some (.int .i64 af)∧w'.cell? ⟨ai,1,none⟩=some (.slice au aa.length aq))∧(Kd.R (Kd.int .i64) 2 w' w.heap.size (fun k_=>some k_ ≠ (s_.2.1:Value).ownBlock) s_.1 t102)∧(Kd.R (Kd.int .i64) 2 w' w.heap.size (fun k_=>some k_ ≠ (s_.1:Value).ownBlock) s_.2.1 t105)∧(w'.heap[ai]?=some (sO af au aa aq 31))∧(w'.heap[s_.2.2]?=some (.cells #[.slice none 0 0] 28 (0,0)))∧(w.heap.size≤s_.2.2)∧(w.heap.size≤s_.2.2)∧(ai ≠ s_.2.2)∧(s_.2.2 ≠ ai)∧(Below w.heap.size w w')) ?_ ?_
   rotate_left
   ·intro PV
    refine uk (σ:=Value × Nat × Nat) 3 (ba 11 447) (fun s_=>[(16,s_.1),(7,.pointer (some ⟨s_.2.1,0,none⟩)),(8,.pointer (some ⟨s_.2.2,0,none⟩))]) (fun s_ w'=>(w'.cell? ⟨ai,0,none⟩=some (.int .i64 af)∧w'.cell? ⟨ai,1,none⟩=some (.slice au aa.length aq))∧(Kd.R (Kd.int .i64) 2 w' w.heap.size (fun _=>True) s_.1 t102)∧(w'.heap[ai]?=some (sO af au aa aq 31))∧(w'.heap[s_.2.1]?=some (.cells #[.slice none 0 0] 28 (0,0)))∧(w'.heap[s_.2.2]?=some (.cells #[.slice none 0 0] 28 (0,0)))∧(w.heap.size≤s_.2.1)∧(w.heap.size≤s_.2.1)∧(ai ≠ s_.2.1)∧(s_.2.1 ≠ ai)∧(s_.2.2 ≠ s_.2.1)∧(s_.2.1 ≠ s_.2.2)∧(w.heap.size≤s_.2.2)∧(w.heap.size≤s_.2.2)∧(ai ≠ s_.2.2)∧(s_.2.2 ≠ ai)∧(Below w.heap.size w w')) ?_ ?_
    rotate_left
    ·intro JZ
     refine uk (σ:=Value × Value) 4 (ba 11 127) (fun s_=>[(16,s_.1),(19,s_.2)]) (fun s_ w'=>(w'.cell? ⟨ai,0,none⟩=some (.int .i64 af)∧w'.cell? ⟨ai,1,none⟩=some (.slice au aa.length aq))∧(Kd.R (Kd.int .i64) 2 w' w.heap.size (fun k_=>some k_ ≠ (s_.2:Value).ownBlock) s_.1 t102)∧(Kd.R (Kd.int .i64) 2 w' w.heap.size (fun k_=>some k_ ≠ (s_.1:Value).ownBlock) s_.2 t105)∧(w'.heap[ai]?=some (sO af au aa aq 31))∧(Below w.heap.size w w')) ?_ ?_
     rotate_left
     ·intro aaa
      refine uk (σ:=Value × Nat) 4 (ba 11 191) (fun s_=>[(16,s_.1),(7,.pointer (some ⟨s_.2,0,none⟩))]) (fun s_ w'=>(w'.cell? ⟨ai,0,none⟩=some (.int .i64 af)∧w'.cell? ⟨ai,1,none⟩=some (.slice au aa.length aq))∧(Kd.R (Kd.int .i64) 2 w' w.heap.size (fun _=>True) s_.1 t102)∧(w'.heap[ai]?=some (sO af au aa aq 31))∧(w'.heap[s_.2]?=some (.cells #[.slice none 0 0] 28 (0,0)))∧(w.heap.size≤s_.2)∧(w.heap.size≤s_.2)∧(ai ≠ s_.2)∧(s_.2 ≠ ai)∧(Below w.heap.size w w')) ?_ ?_
      rotate_left
      ·intro PW
       refine uk (σ:=Value × Nat) 4 (ba 11 319) (fun s_=>[(16,s_.1),(8,.pointer (some ⟨s_.2,0,none⟩))]) (fun s_ w'=>(w'.cell? ⟨ai,0,none⟩=some (.int .i64 af)∧w'.cell? ⟨ai,1,none⟩=some (.slice au aa.length aq))∧(Kd.R (Kd.int .i64) 2 w' w.heap.size (fun _=>True) s_.1 t102)∧(w'.heap[ai]?=some (sO af au aa aq 31))∧(w'.heap[s_.2]?=some (.cells #[.slice none 0 0] 28 (0,0)))∧(w.heap.size≤s_.2)∧(w.heap.size≤s_.2)∧(ai ≠ s_.2)∧(s_.2 ≠ ai)∧(Below w.heap.size w w')) ?_ ?_
       rotate_left
       ·intro PX
        refine uk (σ:=Nat × Nat) 4 (ba 11 439) (fun s_=>[(7,.pointer (some ⟨s_.1,0,none⟩)),(8,.pointer (some ⟨s_.2,0,none⟩))]) (fun s_ w'=>(w'.cell? ⟨ai,0,none⟩=some (.int .i64 af)∧w'.cell? ⟨ai,1,none⟩=some (.slice au aa.length aq))∧(w'.heap[ai]?=some (sO af au aa aq 31))∧(w'.heap[s_.1]?=some (.cells #[.slice none 0 0] 28 (0,0)))∧(w'.heap[s_.2]?=some (.cells #[.slice none 0 0] 28 (0,0)))∧(w.heap.size≤s_.1)∧(w.heap.size≤s_.1)∧(ai ≠ s_.1)∧(s_.1 ≠ ai)∧(s_.2 ≠ s_.1)∧(s_.1 ≠ s_.2)∧(w.heap.size≤s_.2)∧(w.heap.size≤s_.2)∧(ai ≠ s_.2)∧(s_.2 ≠ ai)∧(Below w.heap.size w w')) ?_ ?_
        rotate_left
        ·intro PY
         refine uk (σ:=Value) 5 (ba 11 63) (fun s_=>[(16,s_)]) (fun s_ w'=>(w'.cell? ⟨ai,0,none⟩=some (.int .i64 af)∧w'.cell? ⟨ai,1,none⟩=some (.slice au aa.length aq))∧(Kd.R (Kd.int .i64) 2 w' w.heap.size (fun _=>True) s_ t102)∧(w'.heap[ai]?=some (sO af au aa aq 31))∧(Below w.heap.size w w')) ?_ ?_
         rotate_left
         ·intro hJ3
          refine uk (σ:=Nat) 5 (ba 11 183) (fun s_=>[(7,.pointer (some ⟨s_,0,none⟩))]) (fun s_ w'=>(w'.cell? ⟨ai,0,none⟩=some (.int .i64 af)∧w'.cell? ⟨ai,1,none⟩=some (.slice au aa.length aq))∧(w'.heap[ai]?=some (sO af au aa aq 31))∧(w'.heap[s_]?=some (.cells #[.slice none 0 0] 28 (0,0)))∧(w.heap.size≤s_)∧(w.heap.size≤s_)∧(ai ≠ s_)∧(s_ ≠ ai)∧(Below w.heap.size w w')) ?_ ?_
          rotate_left
          ·intro hJ7
           refine uk (σ:=Nat) 5 (ba 11 311) (fun s_=>[(8,.pointer (some ⟨s_,0,none⟩))]) (fun s_ w'=>(w'.cell? ⟨ai,0,none⟩=some (.int .i64 af)∧w'.cell? ⟨ai,1,none⟩=some (.slice au aa.length aq))∧(w'.heap[ai]?=some (sO af au aa aq 31))∧(w'.heap[s_]?=some (.cells #[.slice none 0 0] 28 (0,0)))∧(w.heap.size≤s_)∧(w.heap.size≤s_)∧(ai ≠ s_)∧(s_ ≠ ai)∧(Below w.heap.size w w')) ?_ ?_
           rotate_left
           ·intro hJ8
            refine Tx (i:=3) (j:=7) (k:=8) (Ni:=some 16) (Nj:=some 7) (Nk:=some 8) (ba 11 63) (ba 11 183) (ba 11 311) rfl rfl rfl rfl rfl rfl (Ty alc.out (by kernel_rfl)) (by decide) (by decide) (by decide) (fun K hK=>?_) (fun K hK=>?_) (fun K hK=>?_)
            ·skip
             refine rC Try.func183 (by kernel_rfl) rfl #[.agg #[.int .i64 af,.slice au aa.length aq],.slice A1 l1.length c1,.int .i64 a2] (by rfl) rfl rfl gm ?_
             with_reducible refine (cw.calls k af _ _ aa _ _ l1 a2 t102 _ ?bt ?bu ?dZ ?ez A4.out).mono ?_
             (case bt=>exact aC (Kd.bI alx.out HB.out))
             (case bu=>exact di.out)
             (case dZ=>exact aC (Kd.bI eP.out HB.out))
             (case ez=>exact nk.out)
             rintro e w8 ⟨dw,rfl,aY,hb⟩
             refine ⟨_,rfl,?_⟩
             have a_:=k0 (Kd.d_ aY (aU bl));replace ah:=k0 (alg (g:=ai) (o:=sO af au aa aq 31) bk hb);replace HB:=k0 (aG bl hb)
             (try clear hb);(try clear aY)
             refine hK.out _ _ ⟨(av ah.out 0).trans rfl,(av ah.out 1).trans rfl⟩ (fun hHeld=>?_)
             clear hK K
             refine dY (a':=?_) ?_ ?_
             rotate_left;· show Act.put _ (some 16) _=_;simp only [Act.put,zI,zZ,zS,cQ,dr];rfl
             exact dY (by first|(simp only [eE,Act.put,zI,zZ,zS];done)|(simp only [eE,Act.put,zI,zZ,zS];rfl)) (hJ3 (dw) _ ⟨hHeld,(aR a_.out),bk,bl⟩)
            ·skip
             refine r4 ?hg (N:=7) ?hd (cs:=#[.slice none 0 0]) (t:=28) ?hr ?_;(case hd=>rfl);(case hg=>rfl);(case hr=>first|(go_simp;done)|(go_simp;rfl))
             intro aX hg w8 aJ hb
             have cv:=k0 (aJ);have jS:=k0 ((by rw [hg];exact (aU bl):w.heap.size≤aX));have ki:=jS;replace HB:=k0 (aG bl hb);have gJ:=k0 ((by rw [hg];exact Nat.ne_of_lt (alq (g:=ai) (o:=sO af au aa aq 31) bk):ai ≠ aX));have iL:=k0 ((by rw [hg];exact Nat.ne_of_gt (alq (g:=ai) (o:=sO af au aa aq 31) bk):aX ≠ ai));replace ah:=k0 (alg (g:=ai) (o:=sO af au aa aq 31) bk hb)
             clear hb aJ hg
             refine hK.out _ _ ⟨(av ah.out 0).trans rfl,(av ah.out 1).trans rfl⟩ (fun hHeld=>?_)
             clear hK K
             refine dY (a':=?_) ?_ ?_
             rotate_left;· show Act.put _ (some 7) _=_;simp only [Act.put,zI,zZ,zS,cQ,dr];rfl
             exact dY (by first|(simp only [eE,Act.put,zI,zZ,zS];done)|(simp only [eE,Act.put,zI,zZ,zS];rfl)) (hJ7 (aX) _ ⟨hHeld,bk,bk,jS.out,ki.out,gJ.out,iL.out,bl⟩)
            ·skip
             refine r4 ?hg (N:=8) ?hd (cs:=#[.slice none 0 0]) (t:=28) ?hr ?_;(case hd=>rfl);(case hg=>rfl);(case hr=>first|(go_simp;done)|(go_simp;rfl))
             intro bg hg w8 aJ hb
             have dx:=k0 (aJ);have jT:=k0 ((by rw [hg];exact (aU bl):w.heap.size≤bg));have kj:=jT;replace HB:=k0 (aG bl hb);have alM:=k0 ((by rw [hg];exact Nat.ne_of_lt (alq (g:=ai) (o:=sO af au aa aq 31) bk):ai ≠ bg));have iX:=k0 ((by rw [hg];exact Nat.ne_of_gt (alq (g:=ai) (o:=sO af au aa aq 31) bk):bg ≠ ai));replace ah:=k0 (alg (g:=ai) (o:=sO af au aa aq 31) bk hb)
             clear hb aJ hg
             refine hK.out _ _ ⟨(av ah.out 0).trans rfl,(av ah.out 1).trans rfl⟩ (fun hHeld=>?_)
             clear hK K
             refine dY (a':=?_) ?_ ?_
             rotate_left;· show Act.put _ (some 8) _=_;simp only [Act.put,zI,zZ,zS,cQ,dr];rfl
             exact dY (by first|(simp only [eE,Act.put,zI,zZ,zS];done)|(simp only [eE,Act.put,zI,zZ,zS];rfl)) (hJ8 (bg) _ ⟨hHeld,bk,bk,jT.out,kj.out,alM.out,iX.out,bl⟩)
           ·skip
            rintro bg w9 ⟨jl,iP,dm,cS,alE,fP,j9,alS⟩
            have aK:ak (w9.heap[ai]?=some (sO af au aa aq 31)):=⟨iP⟩
            have alf:ak (w9.heap[bg]?=some (.cells #[.slice none 0 0] 28 (0,0))):=⟨dm⟩
            have alj:ak (w.heap.size≤bg):=⟨cS⟩
            have bw:ak (w.heap.size≤bg):=⟨alE⟩
            have bQ:ak (ai ≠ bg):=⟨fP⟩
            have bZ:ak (bg ≠ ai):=⟨j9⟩
            have cB:ak (Below w.heap.size w w9):=⟨alS⟩
            clear ah
            clear HB
            clear iP dm cS alE fP j9 alS
            have ah:=aK
            have dx:=alf
            have jT:=alj
            have kj:=bw
            have alM:=bQ
            have iX:=bZ
            have HB:=cB
            clear aK alf alj bw bQ bZ cB
            have hHeld:w9.cell? ⟨ai,0,none⟩=some (.int .i64 af)∧w9.cell? ⟨ai,1,none⟩=some (.slice au aa.length aq):=jl
            refine dY (a':=?_) ?_ ?_
            rotate_left;· simp only [eE,Act.put,zI,zZ,zS];rfl
            refine Eh (i:=3) (j:=7) (Ni:=some 16) (Nj:=some 7) (ba 11 319) (ba 11 439) rfl rfl rfl rfl (Ei alc.out (by kernel_rfl)) (by decide) (by decide) (fun K hK=>?_) (fun K hK=>?_)
            ·skip
             refine rC Try.func183 (by kernel_rfl) rfl #[.agg #[.int .i64 af,.slice au aa.length aq],.slice A1 l1.length c1,.int .i64 a2] (by rfl) rfl rfl gm ?_
             with_reducible refine (cw.calls k af _ _ aa _ _ l1 a2 t102 _ ?bt ?bu ?dZ ?ez A4.out).mono ?_
             (case bt=>exact aC (Kd.bI alx.out HB.out))
             (case bu=>exact di.out)
             (case dZ=>exact aC (Kd.bI eP.out HB.out))
             (case ez=>exact nk.out)
             rintro e fJ ⟨dw,rfl,aY,hb⟩
             refine ⟨_,rfl,?_⟩
             have aK:=k0 (Kd.d_ aY (aU bl))
             have alf:=k0 (alg (g:=ai) (o:=sO af au aa aq 31) bk hb)
             have alj:=k0 (alg (g:=bg) (o:=.cells #[.slice none 0 0] 28 (0,0)) bk hb)
             have bw:=k0 (aG bl hb)
             clear ah
             clear dx
             clear HB
             have a_:=aK
             have ah:=alf
             have dx:=alj
             have HB:=bw
             clear aK alf alj bw
             (try clear hb);(try clear aY)
             refine hK.out _ _ ⟨(av ah.out 0).trans rfl,(av ah.out 1).trans rfl⟩ (fun hHeld=>?_)
             clear hK K
             refine dY (a':=?_) ?_ ?_
             rotate_left;· show Act.put _ (some 16) _=_;simp only [Act.put,zI,zZ,zS,cQ,dr];rfl
             exact dY (by first|(simp only [eE,Act.put,zI,zZ,zS];done)|(simp only [eE,Act.put,zI,zZ,zS];rfl)) (PX (dw,bg) _ ⟨hHeld,(aR a_.out),bk,bk,jT.out,kj.out,alM.out,iX.out,bl⟩)
            ·skip
             refine r4 ?hg (N:=7) ?hd (cs:=#[.slice none 0 0]) (t:=28) ?hr ?_;(case hd=>rfl);(case hg=>rfl);(case hr=>first|(go_simp;done)|(go_simp;rfl))
             intro aX hg fJ aJ hb
             have aK:=k0 (alg (g:=ai) (o:=sO af au aa aq 31) bk hb)
             have alf:=k0 (alg (g:=bg) (o:=.cells #[.slice none 0 0] 28 (0,0)) bk hb)
             have alj:=k0 (aG bl hb)
             have bw:=k0 (aJ)
             have bQ:=k0 ((by rw [hg];exact (aU bl):w.heap.size≤aX))
             have bZ:=k0 ((by rw [hg];exact (aU bl):w.heap.size≤aX))
             have cB:=k0 ((by rw [hg];exact Nat.ne_of_lt (alq (g:=ai) (o:=sO af au aa aq 31) bk):ai ≠ aX))
             have cM:=k0 ((by rw [hg];exact Nat.ne_of_gt (alq (g:=ai) (o:=sO af au aa aq 31) bk):aX ≠ ai))
             have dJ:=k0 ((by rw [hg];exact Nat.ne_of_lt (alq (g:=bg) (o:=.cells #[.slice none 0 0] 28 (0,0)) bk):bg ≠ aX))
             have eX:=k0 ((by rw [hg];exact Nat.ne_of_gt (alq (g:=bg) (o:=.cells #[.slice none 0 0] 28 (0,0)) bk):aX ≠ bg))
             clear ah
             clear dx
             clear HB
             have ah:=aK
             have dx:=alf
             have HB:=alj
             have cv:=bw
             have jS:=bQ
             have ki:=bZ
             have gJ:=cB
             have iL:=cM
             have jV:=dJ
             have ko:=eX
             clear aK alf alj bw bQ bZ cB cM dJ eX
             clear hb aJ hg
             refine hK.out _ _ ⟨(av ah.out 0).trans rfl,(av ah.out 1).trans rfl⟩ (fun hHeld=>?_)
             clear hK K
             refine dY (a':=?_) ?_ ?_
             rotate_left;· show Act.put _ (some 7) _=_;simp only [Act.put,zI,zZ,zS,cQ,dr];rfl
             exact dY (by first|(simp only [eE,Act.put,zI,zZ,zS];done)|(simp only [eE,Act.put,zI,zZ,zS];rfl)) (PY (aX,bg) _ ⟨hHeld,bk,bk,bk,jS.out,ki.out,gJ.out,iL.out,jV.out,ko.out,jT.out,kj.out,alM.out,iX.out,bl⟩)
          ·skip
           rintro aX w9 ⟨jl,iP,dm,cS,alE,fP,j9,alS⟩
           have aK:ak (w9.heap[ai]?=some (sO af au aa aq 31)):=⟨iP⟩
           have alf:ak (w9.heap[aX]?=some (.cells #[.slice none 0 0] 28 (0,0))):=⟨dm⟩
           have alj:ak (w.heap.size≤aX):=⟨cS⟩
           have bw:ak (w.heap.size≤aX):=⟨alE⟩
           have bQ:ak (ai ≠ aX):=⟨fP⟩
           have bZ:ak (aX ≠ ai):=⟨j9⟩
           have cB:ak (Below w.heap.size w w9):=⟨alS⟩
           clear ah
           clear HB
           clear iP dm cS alE fP j9 alS
           have ah:=aK
           have cv:=alf
           have jS:=alj
           have ki:=bw
           have gJ:=bQ
           have iL:=bZ
           have HB:=cB
           clear aK alf alj bw bQ bZ cB
           have hHeld:w9.cell? ⟨ai,0,none⟩=some (.int .i64 af)∧w9.cell? ⟨ai,1,none⟩=some (.slice au aa.length aq):=jl
           refine dY (a':=?_) ?_ ?_
           rotate_left;· simp only [eE,Act.put,zI,zZ,zS];rfl
           refine Eh (i:=3) (j:=8) (Ni:=some 16) (Nj:=some 8) (ba 11 191) (ba 11 439) rfl rfl rfl rfl (Ei alc.out (by kernel_rfl)) (by decide) (by decide) (fun K hK=>?_) (fun K hK=>?_)
           ·skip
            refine rC Try.func183 (by kernel_rfl) rfl #[.agg #[.int .i64 af,.slice au aa.length aq],.slice A1 l1.length c1,.int .i64 a2] (by rfl) rfl rfl gm ?_
            with_reducible refine (cw.calls k af _ _ aa _ _ l1 a2 t102 _ ?bt ?bu ?dZ ?ez A4.out).mono ?_
            (case bt=>exact aC (Kd.bI alx.out HB.out))
            (case bu=>exact di.out)
            (case dZ=>exact aC (Kd.bI eP.out HB.out))
            (case ez=>exact nk.out)
            rintro e fJ ⟨dw,rfl,aY,hb⟩
            refine ⟨_,rfl,?_⟩
            have aK:=k0 (Kd.d_ aY (aU bl))
            have alf:=k0 (alg (g:=ai) (o:=sO af au aa aq 31) bk hb)
            have alj:=k0 (alg (g:=aX) (o:=.cells #[.slice none 0 0] 28 (0,0)) bk hb)
            have bw:=k0 (aG bl hb)
            clear ah
            clear cv
            clear HB
            have a_:=aK
            have ah:=alf
            have cv:=alj
            have HB:=bw
            clear aK alf alj bw
            (try clear hb);(try clear aY)
            refine hK.out _ _ ⟨(av ah.out 0).trans rfl,(av ah.out 1).trans rfl⟩ (fun hHeld=>?_)
            clear hK K
            refine dY (a':=?_) ?_ ?_
            rotate_left;· show Act.put _ (some 16) _=_;simp only [Act.put,zI,zZ,zS,cQ,dr];rfl
            exact dY (by first|(simp only [eE,Act.put,zI,zZ,zS];done)|(simp only [eE,Act.put,zI,zZ,zS];rfl)) (PW (dw,aX) _ ⟨hHeld,(aR a_.out),bk,bk,jS.out,ki.out,gJ.out,iL.out,bl⟩)
           ·skip
            refine r4 ?hg (N:=8) ?hd (cs:=#[.slice none 0 0]) (t:=28) ?hr ?_;(case hd=>rfl);(case hg=>rfl);(case hr=>first|(go_simp;done)|(go_simp;rfl))
            intro bg hg fJ aJ hb
            have aK:=k0 (alg (g:=ai) (o:=sO af au aa aq 31) bk hb)
            have alf:=k0 (alg (g:=aX) (o:=.cells #[.slice none 0 0] 28 (0,0)) bk hb)
            have alj:=k0 (aG bl hb)
            have bw:=k0 (aJ)
            have bQ:=k0 ((by rw [hg];exact (aU bl):w.heap.size≤bg))
            have bZ:=k0 ((by rw [hg];exact (aU bl):w.heap.size≤bg))
            have cB:=k0 ((by rw [hg];exact Nat.ne_of_lt (alq (g:=ai) (o:=sO af au aa aq 31) bk):ai ≠ bg))
            have cM:=k0 ((by rw [hg];exact Nat.ne_of_gt (alq (g:=ai) (o:=sO af au aa aq 31) bk):bg ≠ ai))
            have dJ:=k0 ((by rw [hg];exact Nat.ne_of_lt (alq (g:=aX) (o:=.cells #[.slice none 0 0] 28 (0,0)) bk):aX ≠ bg))
            have eX:=k0 ((by rw [hg];exact Nat.ne_of_gt (alq (g:=aX) (o:=.cells #[.slice none 0 0] 28 (0,0)) bk):bg ≠ aX))
            clear ah
            clear cv
            clear HB
            have ah:=aK
            have cv:=alf
            have HB:=alj
            have dx:=bw
            have jT:=bQ
            have kj:=bZ
            have alM:=cB
            have iX:=cM
            have ko:=dJ
            have jV:=eX
            clear aK alf alj bw bQ bZ cB cM dJ eX
            clear hb aJ hg
            refine hK.out _ _ ⟨(av ah.out 0).trans rfl,(av ah.out 1).trans rfl⟩ (fun hHeld=>?_)
            clear hK K
            refine dY (a':=?_) ?_ ?_
            rotate_left;· show Act.put _ (some 8) _=_;simp only [Act.put,zI,zZ,zS,cQ,dr];rfl
            exact dY (by first|(simp only [eE,Act.put,zI,zZ,zS];done)|(simp only [eE,Act.put,zI,zZ,zS];rfl)) (PY (aX,bg) _ ⟨hHeld,bk,bk,bk,jS.out,ki.out,gJ.out,iL.out,jV.out,ko.out,jT.out,kj.out,alM.out,iX.out,bl⟩)
         ·skip
          rintro dw w9 ⟨jl,iP,dm,cS⟩
          have aK:ak (Kd.R (Kd.int .i64) 2 w9 w.heap.size (fun _=>True) dw t102):=⟨iP⟩
          have alf:ak (w9.heap[ai]?=some (sO af au aa aq 31)):=⟨dm⟩
          have alj:ak (Below w.heap.size w w9):=⟨cS⟩
          clear ah
          clear HB
          clear iP dm cS
          have a_:=aK
          have ah:=alf
          have HB:=alj
          clear aK alf alj
          have hHeld:w9.cell? ⟨ai,0,none⟩=some (.int .i64 af)∧w9.cell? ⟨ai,1,none⟩=some (.slice au aa.length aq):=jl
          refine dY (a':=?_) ?_ ?_
          rotate_left;· simp only [eE,Act.put,zI,zZ,zS];rfl
          refine Tx (i:=6) (j:=7) (k:=8) (Ni:=some 19) (Nj:=some 7) (Nk:=some 8) (ba 11 127) (ba 11 191) (ba 11 319) rfl rfl rfl rfl rfl rfl (Ty alc.out (by kernel_rfl)) (by decide) (by decide) (by decide) (fun K hK=>?_) (fun K hK=>?_) (fun K hK=>?_)
          ·skip
           refine rC Try.func184 (by kernel_rfl) rfl #[.agg #[.int .i64 af,.slice au aa.length aq],.int .i64 a2] (by rfl) rfl rfl gm ?_
           with_reducible refine (cK.calls k af _ _ aa a2 t105 _ ?bt ?bu A5.out).mono ?_
           (case bt=>exact aC (Kd.bI alx.out HB.out))
           (case bu=>exact di.out)
           rintro e fJ ⟨gj,rfl,aY,hb⟩
           refine ⟨_,rfl,?_⟩
           have cO:=k0 (Kd.d_ (Kd.alF aY (Kd.eZ (aR a_.out))) (aU bl));replace a_:=k0 (Kd.gK (aR a_.out) (Kd.dV aY) hb);replace ah:=k0 (alg (g:=ai) (o:=sO af au aa aq 31) bk hb);replace HB:=k0 (aG bl hb)
           (try clear hb);(try clear aY)
           refine hK.out _ _ ⟨(av ah.out 0).trans rfl,(av ah.out 1).trans rfl⟩ (fun hHeld=>?_)
           clear hK K
           refine dY (a':=?_) ?_ ?_
           rotate_left;· show Act.put _ (some 19) _=_;simp only [Act.put,zI,zZ,zS,cQ,dr];rfl
           exact dY (by first|(simp only [eE,Act.put,zI,zZ,zS];done)|(simp only [eE,Act.put,zI,zZ,zS];rfl)) (aaa (dw,gj) _ ⟨hHeld,(by (with_reducible repeat (first|apply Kd.bO|apply Kd.bR|apply Kd.alp));exact Kd.bx a_.out (fun _ hk=>hk.2)),(by (with_reducible repeat (first|apply Kd.bO|apply Kd.bR|apply Kd.alp));exact Kd.bx cO.out (fun _ hk=>hk.2)),bk,bl⟩)
          ·skip
           refine r4 ?hg (N:=7) ?hd (cs:=#[.slice none 0 0]) (t:=28) ?hr ?_;(case hd=>rfl);(case hg=>rfl);(case hr=>first|(go_simp;done)|(go_simp;rfl))
           intro aX hg fJ aJ hb
           replace a_:=k0 (Kd.ct (aR a_.out) hb);have cv:=k0 (aJ);have jS:=k0 ((by rw [hg];exact (aU bl):w.heap.size≤aX));have ki:=jS;replace HB:=k0 (aG bl hb);have gJ:=k0 ((by rw [hg];exact Nat.ne_of_lt (alq (g:=ai) (o:=sO af au aa aq 31) bk):ai ≠ aX));have iL:=k0 ((by rw [hg];exact Nat.ne_of_gt (alq (g:=ai) (o:=sO af au aa aq 31) bk):aX ≠ ai));replace ah:=k0 (alg (g:=ai) (o:=sO af au aa aq 31) bk hb)
           clear hb aJ hg
           refine hK.out _ _ ⟨(av ah.out 0).trans rfl,(av ah.out 1).trans rfl⟩ (fun hHeld=>?_)
           clear hK K
           refine dY (a':=?_) ?_ ?_
           rotate_left;· show Act.put _ (some 7) _=_;simp only [Act.put,zI,zZ,zS,cQ,dr];rfl
           exact dY (by first|(simp only [eE,Act.put,zI,zZ,zS];done)|(simp only [eE,Act.put,zI,zZ,zS];rfl)) (PW (dw,aX) _ ⟨hHeld,(aR a_.out),bk,bk,jS.out,ki.out,gJ.out,iL.out,bl⟩)
          ·skip
           refine r4 ?hg (N:=8) ?hd (cs:=#[.slice none 0 0]) (t:=28) ?hr ?_;(case hd=>rfl);(case hg=>rfl);(case hr=>first|(go_simp;done)|(go_simp;rfl))
           intro bg hg fJ aJ hb
           replace a_:=k0 (Kd.ct (aR a_.out) hb);have dx:=k0 (aJ);have jT:=k0 ((by rw [hg];exact (aU bl):w.heap.size≤bg));have kj:=jT;replace HB:=k0 (aG bl hb);have alM:=k0 ((by rw [hg];exact Nat.ne_of_lt (alq (g:=ai) (o:=sO af au aa aq 31) bk):ai ≠ bg));have iX:=k0 ((by rw [hg];exact Nat.ne_of_gt (alq (g:=ai) (o:=sO af au aa aq 31) bk):bg ≠ ai));replace ah:=k0 (alg (g:=ai) (o:=sO af au aa aq 31) bk hb)
           clear hb aJ hg
           refine hK.out _ _ ⟨(av ah.out 0).trans rfl,(av ah.out 1).trans rfl⟩ (fun hHeld=>?_)
           clear hK K
           refine dY (a':=?_) ?_ ?_
           rotate_left;· show Act.put _ (some 8) _=_;simp only [Act.put,zI,zZ,zS,cQ,dr];rfl
           exact dY (by first|(simp only [eE,Act.put,zI,zZ,zS];done)|(simp only [eE,Act.put,zI,zZ,zS];rfl)) (PX (dw,bg) _ ⟨hHeld,(aR a_.out),bk,bk,jT.out,kj.out,alM.out,iX.out,bl⟩)
        ·skip
         rintro ⟨aX,bg⟩ fJ ⟨jl,iP,dm,cS,alE,fP,j9,alS,mo,qD,xL,xH,xI,xJ,xK⟩
         have aK:ak (fJ.heap[ai]?=some (sO af au aa aq 31)):=⟨iP⟩
         have alf:ak (fJ.heap[aX]?=some (.cells #[.slice none 0 0] 28 (0,0))):=⟨dm⟩
         have alj:ak (fJ.heap[bg]?=some (.cells #[.slice none 0 0] 28 (0,0))):=⟨cS⟩
         have bw:ak (w.heap.size≤aX):=⟨alE⟩
         have bQ:ak (w.heap.size≤aX):=⟨fP⟩
         have bZ:ak (ai ≠ aX):=⟨j9⟩
         have cB:ak (aX ≠ ai):=⟨alS⟩
         have cM:ak (bg ≠ aX):=⟨mo⟩
         have dJ:ak (aX ≠ bg):=⟨qD⟩
         have eX:ak (w.heap.size≤bg):=⟨xL⟩
         have ke:ak (w.heap.size≤bg):=⟨xH⟩
         have oH:ak (ai ≠ bg):=⟨xI⟩
         have uo:ak (bg ≠ ai):=⟨xJ⟩
         have uq:ak (Below w.heap.size w fJ):=⟨xK⟩
         clear ah
         clear HB
         clear iP dm cS alE fP j9 alS mo qD xL xH xI xJ xK
         have ah:=aK
         have cv:=alf
         have dx:=alj
         have jS:=bw
         have ki:=bQ
         have gJ:=bZ
         have iL:=cB
         have jV:=cM
         have ko:=dJ
         have jT:=eX
         have kj:=ke
         have alM:=oH
         have iX:=uo
         have HB:=uq
         clear aK alf alj bw bQ bZ cB cM dJ eX ke oH uo uq
         have hHeld:fJ.cell? ⟨ai,0,none⟩=some (.int .i64 af)∧fJ.cell? ⟨ai,1,none⟩=some (.slice au aa.length aq):=jl
         refine dY (a':=?_) ?_ ?_
         rotate_left;· simp only [eE,Act.put,zI,zZ,zS];rfl
         refine sG (i:=3) (N:=some 16) (ba 11 447) rfl rfl (lG alc.out (by kernel_rfl)) (by decide) (fun K hK=>?_)
         refine rC Try.func183 (by kernel_rfl) rfl #[.agg #[.int .i64 af,.slice au aa.length aq],.slice A1 l1.length c1,.int .i64 a2] (by rfl) rfl rfl gm ?_
         with_reducible refine (cw.calls k af _ _ aa _ _ l1 a2 t102 _ ?bt ?bu ?dZ ?ez A4.out).mono ?_
         (case bt=>exact aC (Kd.bI alx.out HB.out))
         (case bu=>exact di.out)
         (case dZ=>exact aC (Kd.bI eP.out HB.out))
         (case ez=>exact nk.out)
         rintro e eM ⟨dw,rfl,aY,hb⟩
         refine ⟨_,rfl,?_⟩
         have aK:=k0 (Kd.d_ aY (aU bl))
         have alf:=k0 (alg (g:=ai) (o:=sO af au aa aq 31) bk hb)
         have alj:=k0 (alg (g:=aX) (o:=.cells #[.slice none 0 0] 28 (0,0)) bk hb)
         have bw:=k0 (alg (g:=bg) (o:=.cells #[.slice none 0 0] 28 (0,0)) bk hb)
         have bQ:=k0 (aG bl hb)
         clear ah
         clear cv
         clear dx
         clear HB
         have a_:=aK
         have ah:=alf
         have cv:=alj
         have dx:=bw
         have HB:=bQ
         clear aK alf alj bw bQ
         (try clear hb);(try clear aY)
         refine hK.out _ _ ⟨(av ah.out 0).trans rfl,(av ah.out 1).trans rfl⟩ (fun hHeld=>?_)
         clear hK K
         refine dY (a':=?_) ?_ ?_
         rotate_left;· show Act.put _ (some 16) _=_;simp only [Act.put,zI,zZ,zS,cQ,dr];rfl
         exact dY (by first|(simp only [eE,Act.put,zI,zZ,zS];done)|(simp only [eE,Act.put,zI,zZ,zS];rfl)) (JZ (dw,aX,bg) _ ⟨hHeld,(aR a_.out),bk,bk,bk,jS.out,ki.out,gJ.out,iL.out,jV.out,ko.out,jT.out,kj.out,alM.out,iX.out,bl⟩)
       ·skip
        rintro ⟨dw,bg⟩ fJ ⟨jl,iP,dm,cS,alE,fP,j9,alS,mo⟩
        have aK:ak (Kd.R (Kd.int .i64) 2 fJ w.heap.size (fun _=>True) dw t102):=⟨iP⟩
        have alf:ak (fJ.heap[ai]?=some (sO af au aa aq 31)):=⟨dm⟩
        have alj:ak (fJ.heap[bg]?=some (.cells #[.slice none 0 0] 28 (0,0))):=⟨cS⟩
        have bw:ak (w.heap.size≤bg):=⟨alE⟩
        have bQ:ak (w.heap.size≤bg):=⟨fP⟩
        have bZ:ak (ai ≠ bg):=⟨j9⟩
        have cB:ak (bg ≠ ai):=⟨alS⟩
        have cM:ak (Below w.heap.size w fJ):=⟨mo⟩
        clear ah
        clear HB
        clear iP dm cS alE fP j9 alS mo
        have a_:=aK
        have ah:=alf
        have dx:=alj
        have jT:=bw
        have kj:=bQ
        have alM:=bZ
        have iX:=cB
        have HB:=cM
        clear aK alf alj bw bQ bZ cB cM
        have hHeld:fJ.cell? ⟨ai,0,none⟩=some (.int .i64 af)∧fJ.cell? ⟨ai,1,none⟩=some (.slice au aa.length aq):=jl
        refine dY (a':=?_) ?_ ?_
        rotate_left;· simp only [eE,Act.put,zI,zZ,zS];rfl
        refine Eh (i:=6) (j:=7) (Ni:=some 19) (Nj:=some 7) (ba 11 383) (ba 11 447) rfl rfl rfl rfl (Ei alc.out (by kernel_rfl)) (by decide) (by decide) (fun K hK=>?_) (fun K hK=>?_)
        ·skip
         refine rC Try.func184 (by kernel_rfl) rfl #[.agg #[.int .i64 af,.slice au aa.length aq],.int .i64 a2] (by rfl) rfl rfl gm ?_
         with_reducible refine (cK.calls k af _ _ aa a2 t105 _ ?bt ?bu A5.out).mono ?_
         (case bt=>exact aC (Kd.bI alx.out HB.out))
         (case bu=>exact di.out)
         rintro e eM ⟨gj,rfl,aY,hb⟩
         refine ⟨_,rfl,?_⟩
         have aK:=k0 (Kd.gK (aR a_.out) (Kd.dV aY) hb)
         have alf:=k0 (Kd.d_ (Kd.alF aY (Kd.eZ (aR a_.out))) (aU bl))
         have alj:=k0 (alg (g:=ai) (o:=sO af au aa aq 31) bk hb)
         have bw:=k0 (alg (g:=bg) (o:=.cells #[.slice none 0 0] 28 (0,0)) bk hb)
         have bQ:=k0 (aG bl hb)
         clear a_
         clear ah
         clear dx
         clear HB
         have a_:=aK
         have cO:=alf
         have ah:=alj
         have dx:=bw
         have HB:=bQ
         clear aK alf alj bw bQ
         (try clear hb);(try clear aY)
         refine hK.out _ _ ⟨(av ah.out 0).trans rfl,(av ah.out 1).trans rfl⟩ (fun hHeld=>?_)
         clear hK K
         refine dY (a':=?_) ?_ ?_
         rotate_left;· show Act.put _ (some 19) _=_;simp only [Act.put,zI,zZ,zS,cQ,dr];rfl
         exact dY (by first|(simp only [eE,Act.put,zI,zZ,zS];done)|(simp only [eE,Act.put,zI,zZ,zS];rfl)) (PV (dw,gj,bg) _ ⟨hHeld,(by (with_reducible repeat (first|apply Kd.bO|apply Kd.bR|apply Kd.alp));exact Kd.bx a_.out (fun _ hk=>hk.2)),(by (with_reducible repeat (first|apply Kd.bO|apply Kd.bR|apply Kd.alp));exact Kd.bx cO.out (fun _ hk=>hk.2)),bk,bk,jT.out,kj.out,alM.out,iX.out,bl⟩)
        ·skip
         refine r4 ?hg (N:=7) ?hd (cs:=#[.slice none 0 0]) (t:=28) ?hr ?_;(case hd=>rfl);(case hg=>rfl);(case hr=>first|(go_simp;done)|(go_simp;rfl))
         intro aX hg eM aJ hb
         have aK:=k0 (Kd.ct (aR a_.out) hb)
         have alf:=k0 (alg (g:=ai) (o:=sO af au aa aq 31) bk hb)
         have alj:=k0 (alg (g:=bg) (o:=.cells #[.slice none 0 0] 28 (0,0)) bk hb)
         have bw:=k0 (aG bl hb)
         have bQ:=k0 (aJ)
         have bZ:=k0 ((by rw [hg];exact (aU bl):w.heap.size≤aX))
         have cB:=k0 ((by rw [hg];exact (aU bl):w.heap.size≤aX))
         have cM:=k0 ((by rw [hg];exact Nat.ne_of_lt (alq (g:=ai) (o:=sO af au aa aq 31) bk):ai ≠ aX))
         have dJ:=k0 ((by rw [hg];exact Nat.ne_of_gt (alq (g:=ai) (o:=sO af au aa aq 31) bk):aX ≠ ai))
         have eX:=k0 ((by rw [hg];exact Nat.ne_of_lt (alq (g:=bg) (o:=.cells #[.slice none 0 0] 28 (0,0)) bk):bg ≠ aX))
         have ke:=k0 ((by rw [hg];exact Nat.ne_of_gt (alq (g:=bg) (o:=.cells #[.slice none 0 0] 28 (0,0)) bk):aX ≠ bg))
         clear a_
         clear ah
         clear dx
         clear HB
         have a_:=aK
         have ah:=alf
         have dx:=alj
         have HB:=bw
         have cv:=bQ
         have jS:=bZ
         have ki:=cB
         have gJ:=cM
         have iL:=dJ
         have jV:=eX
         have ko:=ke
         clear aK alf alj bw bQ bZ cB cM dJ eX ke
         clear hb aJ hg
         refine hK.out _ _ ⟨(av ah.out 0).trans rfl,(av ah.out 1).trans rfl⟩ (fun hHeld=>?_)
         clear hK K
         refine dY (a':=?_) ?_ ?_
         rotate_left;· show Act.put _ (some 7) _=_;simp only [Act.put,zI,zZ,zS,cQ,dr];rfl
         exact dY (by first|(simp only [eE,Act.put,zI,zZ,zS];done)|(simp only [eE,Act.put,zI,zZ,zS];rfl)) (JZ (dw,aX,bg) _ ⟨hHeld,(aR a_.out),bk,bk,bk,jS.out,ki.out,gJ.out,iL.out,jV.out,ko.out,jT.out,kj.out,alM.out,iX.out,bl⟩)
      ·skip
       rintro ⟨dw,aX⟩ fJ ⟨jl,iP,dm,cS,alE,fP,j9,alS,mo⟩
       have aK:ak (Kd.R (Kd.int .i64) 2 fJ w.heap.size (fun _=>True) dw t102):=⟨iP⟩
       have alf:ak (fJ.heap[ai]?=some (sO af au aa aq 31)):=⟨dm⟩
       have alj:ak (fJ.heap[aX]?=some (.cells #[.slice none 0 0] 28 (0,0))):=⟨cS⟩
       have bw:ak (w.heap.size≤aX):=⟨alE⟩
       have bQ:ak (w.heap.size≤aX):=⟨fP⟩
       have bZ:ak (ai ≠ aX):=⟨j9⟩
       have cB:ak (aX ≠ ai):=⟨alS⟩
       have cM:ak (Below w.heap.size w fJ):=⟨mo⟩
       clear ah
       clear HB
       clear iP dm cS alE fP j9 alS mo
       have a_:=aK
       have ah:=alf
       have cv:=alj
       have jS:=bw
       have ki:=bQ
       have gJ:=bZ
       have iL:=cB
       have HB:=cM
       clear aK alf alj bw bQ bZ cB cM
       have hHeld:fJ.cell? ⟨ai,0,none⟩=some (.int .i64 af)∧fJ.cell? ⟨ai,1,none⟩=some (.slice au aa.length aq):=jl
       refine dY (a':=?_) ?_ ?_
       rotate_left;· simp only [eE,Act.put,zI,zZ,zS];rfl
       refine Eh (i:=6) (j:=8) (Ni:=some 19) (Nj:=some 8) (ba 11 255) (ba 11 447) rfl rfl rfl rfl (Ei alc.out (by kernel_rfl)) (by decide) (by decide) (fun K hK=>?_) (fun K hK=>?_)
       ·skip
        refine rC Try.func184 (by kernel_rfl) rfl #[.agg #[.int .i64 af,.slice au aa.length aq],.int .i64 a2] (by rfl) rfl rfl gm ?_
        with_reducible refine (cK.calls k af _ _ aa a2 t105 _ ?bt ?bu A5.out).mono ?_
        (case bt=>exact aC (Kd.bI alx.out HB.out))
        (case bu=>exact di.out)
        rintro e eM ⟨gj,rfl,aY,hb⟩
        refine ⟨_,rfl,?_⟩
        have aK:=k0 (Kd.gK (aR a_.out) (Kd.dV aY) hb)
        have alf:=k0 (Kd.d_ (Kd.alF aY (Kd.eZ (aR a_.out))) (aU bl))
        have alj:=k0 (alg (g:=ai) (o:=sO af au aa aq 31) bk hb)
        have bw:=k0 (alg (g:=aX) (o:=.cells #[.slice none 0 0] 28 (0,0)) bk hb)
        have bQ:=k0 (aG bl hb)
        clear a_
        clear ah
        clear cv
        clear HB
        have a_:=aK
        have cO:=alf
        have ah:=alj
        have cv:=bw
        have HB:=bQ
        clear aK alf alj bw bQ
        (try clear hb);(try clear aY)
        refine hK.out _ _ ⟨(av ah.out 0).trans rfl,(av ah.out 1).trans rfl⟩ (fun hHeld=>?_)
        clear hK K
        refine dY (a':=?_) ?_ ?_
        rotate_left;· show Act.put _ (some 19) _=_;simp only [Act.put,zI,zZ,zS,cQ,dr];rfl
        exact dY (by first|(simp only [eE,Act.put,zI,zZ,zS];done)|(simp only [eE,Act.put,zI,zZ,zS];rfl)) (PU (dw,gj,aX) _ ⟨hHeld,(by (with_reducible repeat (first|apply Kd.bO|apply Kd.bR|apply Kd.alp));exact Kd.bx a_.out (fun _ hk=>hk.2)),(by (with_reducible repeat (first|apply Kd.bO|apply Kd.bR|apply Kd.alp));exact Kd.bx cO.out (fun _ hk=>hk.2)),bk,bk,jS.out,ki.out,gJ.out,iL.out,bl⟩)
       ·skip
        refine r4 ?hg (N:=8) ?hd (cs:=#[.slice none 0 0]) (t:=28) ?hr ?_;(case hd=>rfl);(case hg=>rfl);(case hr=>first|(go_simp;done)|(go_simp;rfl))
        intro bg hg eM aJ hb
        have aK:=k0 (Kd.ct (aR a_.out) hb)
        have alf:=k0 (alg (g:=ai) (o:=sO af au aa aq 31) bk hb)
        have alj:=k0 (alg (g:=aX) (o:=.cells #[.slice none 0 0] 28 (0,0)) bk hb)
        have bw:=k0 (aG bl hb)
        have bQ:=k0 (aJ)
        have bZ:=k0 ((by rw [hg];exact (aU bl):w.heap.size≤bg))
        have cB:=k0 ((by rw [hg];exact (aU bl):w.heap.size≤bg))
        have cM:=k0 ((by rw [hg];exact Nat.ne_of_lt (alq (g:=ai) (o:=sO af au aa aq 31) bk):ai ≠ bg))
        have dJ:=k0 ((by rw [hg];exact Nat.ne_of_gt (alq (g:=ai) (o:=sO af au aa aq 31) bk):bg ≠ ai))
        have eX:=k0 ((by rw [hg];exact Nat.ne_of_lt (alq (g:=aX) (o:=.cells #[.slice none 0 0] 28 (0,0)) bk):aX ≠ bg))
        have ke:=k0 ((by rw [hg];exact Nat.ne_of_gt (alq (g:=aX) (o:=.cells #[.slice none 0 0] 28 (0,0)) bk):bg ≠ aX))
        clear a_
        clear ah
        clear cv
        clear HB
        have a_:=aK
        have ah:=alf
        have cv:=alj
        have HB:=bw
        have dx:=bQ
        have jT:=bZ
        have kj:=cB
        have alM:=cM
        have iX:=dJ
        have ko:=eX
        have jV:=ke
        clear aK alf alj bw bQ bZ cB cM dJ eX ke
        clear hb aJ hg
        refine hK.out _ _ ⟨(av ah.out 0).trans rfl,(av ah.out 1).trans rfl⟩ (fun hHeld=>?_)
        clear hK K
        refine dY (a':=?_) ?_ ?_
        rotate_left;· show Act.put _ (some 8) _=_;simp only [Act.put,zI,zZ,zS,cQ,dr];rfl
        exact dY (by first|(simp only [eE,Act.put,zI,zZ,zS];done)|(simp only [eE,Act.put,zI,zZ,zS];rfl)) (JZ (dw,aX,bg) _ ⟨hHeld,(aR a_.out),bk,bk,bk,jS.out,ki.out,gJ.out,iL.out,jV.out,ko.out,jT.out,kj.out,alM.out,iX.out,bl⟩)
     ·skip
      rintro ⟨dw,gj⟩ fJ ⟨jl,iP,dm,cS,alE⟩
      have aK:ak (Kd.R (Kd.int .i64) 2 fJ w.heap.size (fun k_=>some k_ ≠ (gj:Value).ownBlock) dw t102):=⟨iP⟩
      have alf:ak (Kd.R (Kd.int .i64) 2 fJ w.heap.size (fun k_=>some k_ ≠ (dw:Value).ownBlock) gj t105):=⟨dm⟩
      have alj:ak (fJ.heap[ai]?=some (sO af au aa aq 31)):=⟨cS⟩
      have bw:ak (Below w.heap.size w fJ):=⟨alE⟩
      clear ah
      clear HB
      clear iP dm cS alE
      have a_:=aK
      have cO:=alf
      have ah:=alj
      have HB:=bw
      clear aK alf alj bw
      have hHeld:fJ.cell? ⟨ai,0,none⟩=some (.int .i64 af)∧fJ.cell? ⟨ai,1,none⟩=some (.slice au aa.length aq):=jl
      refine dY (a':=?_) ?_ ?_
      rotate_left;· simp only [eE,Act.put,zI,zZ,zS];rfl
      refine Eh (i:=7) (j:=8) (Ni:=some 7) (Nj:=some 8) (ba 11 255) (ba 11 383) rfl rfl rfl rfl (Ei alc.out (by kernel_rfl)) (by decide) (by decide) (fun K hK=>?_) (fun K hK=>?_)
      ·skip
       refine r4 ?hg (N:=7) ?hd (cs:=#[.slice none 0 0]) (t:=28) ?hr ?_;(case hd=>rfl);(case hg=>rfl);(case hr=>first|(go_simp;done)|(go_simp;rfl))
       intro aX hg eM aJ hb
       replace a_:=k0 (Kd.ct (aR a_.out) hb);replace cO:=k0 (Kd.ct (aR cO.out) hb);have cv:=k0 (aJ);have jS:=k0 ((by rw [hg];exact (aU bl):w.heap.size≤aX));have ki:=jS;replace HB:=k0 (aG bl hb);have gJ:=k0 ((by rw [hg];exact Nat.ne_of_lt (alq (g:=ai) (o:=sO af au aa aq 31) bk):ai ≠ aX));have iL:=k0 ((by rw [hg];exact Nat.ne_of_gt (alq (g:=ai) (o:=sO af au aa aq 31) bk):aX ≠ ai));replace ah:=k0 (alg (g:=ai) (o:=sO af au aa aq 31) bk hb)
       clear hb aJ hg
       refine hK.out _ _ ⟨(av ah.out 0).trans rfl,(av ah.out 1).trans rfl⟩ (fun hHeld=>?_)
       clear hK K
       refine dY (a':=?_) ?_ ?_
       rotate_left;· show Act.put _ (some 7) _=_;simp only [Act.put,zI,zZ,zS,cQ,dr];rfl
       exact dY (by first|(simp only [eE,Act.put,zI,zZ,zS];done)|(simp only [eE,Act.put,zI,zZ,zS];rfl)) (PU (dw,gj,aX) _ ⟨hHeld,(aR a_.out),(aR cO.out),bk,bk,jS.out,ki.out,gJ.out,iL.out,bl⟩)
      ·skip
       refine r4 ?hg (N:=8) ?hd (cs:=#[.slice none 0 0]) (t:=28) ?hr ?_;(case hd=>rfl);(case hg=>rfl);(case hr=>first|(go_simp;done)|(go_simp;rfl))
       intro bg hg eM aJ hb
       replace a_:=k0 (Kd.ct (aR a_.out) hb);replace cO:=k0 (Kd.ct (aR cO.out) hb);have dx:=k0 (aJ);have jT:=k0 ((by rw [hg];exact (aU bl):w.heap.size≤bg));have kj:=jT;replace HB:=k0 (aG bl hb);have alM:=k0 ((by rw [hg];exact Nat.ne_of_lt (alq (g:=ai) (o:=sO af au aa aq 31) bk):ai ≠ bg));have iX:=k0 ((by rw [hg];exact Nat.ne_of_gt (alq (g:=ai) (o:=sO af au aa aq 31) bk):bg ≠ ai));replace ah:=k0 (alg (g:=ai) (o:=sO af au aa aq 31) bk hb)
       clear hb aJ hg
       refine hK.out _ _ ⟨(av ah.out 0).trans rfl,(av ah.out 1).trans rfl⟩ (fun hHeld=>?_)
       clear hK K
       refine dY (a':=?_) ?_ ?_
       rotate_left;· show Act.put _ (some 8) _=_;simp only [Act.put,zI,zZ,zS,cQ,dr];rfl
       exact dY (by first|(simp only [eE,Act.put,zI,zZ,zS];done)|(simp only [eE,Act.put,zI,zZ,zS];rfl)) (PV (dw,gj,bg) _ ⟨hHeld,(aR a_.out),(aR cO.out),bk,bk,jT.out,kj.out,alM.out,iX.out,bl⟩)
    ·skip
     rintro ⟨dw,aX,bg⟩ eM ⟨jl,iP,dm,cS,alE,fP,j9,alS,mo,qD,xL,xH,xI,xJ,xK,CK⟩
     have aK:ak (Kd.R (Kd.int .i64) 2 eM w.heap.size (fun _=>True) dw t102):=⟨iP⟩
     have alf:ak (eM.heap[ai]?=some (sO af au aa aq 31)):=⟨dm⟩
     have alj:ak (eM.heap[aX]?=some (.cells #[.slice none 0 0] 28 (0,0))):=⟨cS⟩
     have bw:ak (eM.heap[bg]?=some (.cells #[.slice none 0 0] 28 (0,0))):=⟨alE⟩
     have bQ:ak (w.heap.size≤aX):=⟨fP⟩
     have bZ:ak (w.heap.size≤aX):=⟨j9⟩
     have cB:ak (ai ≠ aX):=⟨alS⟩
     have cM:ak (aX ≠ ai):=⟨mo⟩
     have dJ:ak (bg ≠ aX):=⟨qD⟩
     have eX:ak (aX ≠ bg):=⟨xL⟩
     have ke:ak (w.heap.size≤bg):=⟨xH⟩
     have oH:ak (w.heap.size≤bg):=⟨xI⟩
     have uo:ak (ai ≠ bg):=⟨xJ⟩
     have uq:ak (bg ≠ ai):=⟨xK⟩
     have DZ:ak (Below w.heap.size w eM):=⟨CK⟩
     clear ah
     clear HB
     clear iP dm cS alE fP j9 alS mo qD xL xH xI xJ xK CK
     have a_:=aK
     have ah:=alf
     have cv:=alj
     have dx:=bw
     have jS:=bQ
     have ki:=bZ
     have gJ:=cB
     have iL:=cM
     have jV:=dJ
     have ko:=eX
     have jT:=ke
     have kj:=oH
     have alM:=uo
     have iX:=uq
     have HB:=DZ
     clear aK alf alj bw bQ bZ cB cM dJ eX ke oH uo uq DZ
     have hHeld:eM.cell? ⟨ai,0,none⟩=some (.int .i64 af)∧eM.cell? ⟨ai,1,none⟩=some (.slice au aa.length aq):=jl
     refine dY (a':=?_) ?_ ?_
     rotate_left;· simp only [eE,Act.put,zI,zZ,zS];rfl
     refine sG (i:=6) (N:=some 19) (ba 11 511) rfl rfl (lG alc.out (by kernel_rfl)) (by decide) (fun K hK=>?_)
     refine rC Try.func184 (by kernel_rfl) rfl #[.agg #[.int .i64 af,.slice au aa.length aq],.int .i64 a2] (by rfl) rfl rfl gm ?_
     with_reducible refine (cK.calls k af _ _ aa a2 t105 _ ?bt ?bu A5.out).mono ?_
     (case bt=>exact aC (Kd.bI alx.out HB.out))
     (case bu=>exact di.out)
     rintro e gM ⟨gj,rfl,aY,hb⟩
     refine ⟨_,rfl,?_⟩
     have aK:=k0 (Kd.gK (aR a_.out) (Kd.dV aY) hb)
     have alf:=k0 (Kd.d_ (Kd.alF aY (Kd.eZ (aR a_.out))) (aU bl))
     have alj:=k0 (alg (g:=ai) (o:=sO af au aa aq 31) bk hb)
     have bw:=k0 (alg (g:=aX) (o:=.cells #[.slice none 0 0] 28 (0,0)) bk hb)
     have bQ:=k0 (alg (g:=bg) (o:=.cells #[.slice none 0 0] 28 (0,0)) bk hb)
     have bZ:=k0 (aG bl hb)
     clear a_
     clear ah
     clear cv
     clear dx
     clear HB
     have a_:=aK
     have cO:=alf
     have ah:=alj
     have cv:=bw
     have dx:=bQ
     have HB:=bZ
     clear aK alf alj bw bQ bZ
     (try clear hb);(try clear aY)
     refine hK.out _ _ ⟨(av ah.out 0).trans rfl,(av ah.out 1).trans rfl⟩ (fun hHeld=>?_)
     clear hK K
     refine dY (a':=?_) ?_ ?_
     rotate_left;· show Act.put _ (some 19) _=_;simp only [Act.put,zI,zZ,zS,cQ,dr];rfl
     exact dY (by first|(simp only [eE,Act.put,zI,zZ,zS];done)|(simp only [eE,Act.put,zI,zZ,zS];rfl)) (JY (dw,gj,aX,bg) _ ⟨hHeld,(by (with_reducible repeat (first|apply Kd.bO|apply Kd.bR|apply Kd.alp));exact Kd.bx a_.out (fun _ hk=>hk.2)),(by (with_reducible repeat (first|apply Kd.bO|apply Kd.bR|apply Kd.alp));exact Kd.bx cO.out (fun _ hk=>hk.2)),bk,bk,bk,jS.out,ki.out,gJ.out,iL.out,jV.out,ko.out,jT.out,kj.out,alM.out,iX.out,bl⟩)
   ·skip
    rintro ⟨dw,gj,bg⟩ eM ⟨jl,iP,dm,cS,alE,fP,j9,alS,mo,qD⟩
    have aK:ak (Kd.R (Kd.int .i64) 2 eM w.heap.size (fun k_=>some k_ ≠ (gj:Value).ownBlock) dw t102):=⟨iP⟩
    have alf:ak (Kd.R (Kd.int .i64) 2 eM w.heap.size (fun k_=>some k_ ≠ (dw:Value).ownBlock) gj t105):=⟨dm⟩
    have alj:ak (eM.heap[ai]?=some (sO af au aa aq 31)):=⟨cS⟩
    have bw:ak (eM.heap[bg]?=some (.cells #[.slice none 0 0] 28 (0,0))):=⟨alE⟩
    have bQ:ak (w.heap.size≤bg):=⟨fP⟩
    have bZ:ak (w.heap.size≤bg):=⟨j9⟩
    have cB:ak (ai ≠ bg):=⟨alS⟩
    have cM:ak (bg ≠ ai):=⟨mo⟩
    have dJ:ak (Below w.heap.size w eM):=⟨qD⟩
    clear ah
    clear HB
    clear iP dm cS alE fP j9 alS mo qD
    have a_:=aK
    have cO:=alf
    have ah:=alj
    have dx:=bw
    have jT:=bQ
    have kj:=bZ
    have alM:=cB
    have iX:=cM
    have HB:=dJ
    clear aK alf alj bw bQ bZ cB cM dJ
    have hHeld:eM.cell? ⟨ai,0,none⟩=some (.int .i64 af)∧eM.cell? ⟨ai,1,none⟩=some (.slice au aa.length aq):=jl
    refine dY (a':=?_) ?_ ?_
    rotate_left;· simp only [eE,Act.put,zI,zZ,zS];rfl
    refine sG (i:=7) (N:=some 7) (ba 11 511) rfl rfl (lG alc.out (by kernel_rfl)) (by decide) (fun K hK=>?_)
    refine r4 ?hg (N:=7) ?hd (cs:=#[.slice none 0 0]) (t:=28) ?hr ?_;(case hd=>rfl);(case hg=>rfl);(case hr=>first|(go_simp;done)|(go_simp;rfl))
    intro aX hg gM aJ hb
    have aK:=k0 (Kd.ct (aR a_.out) hb)
    have alf:=k0 (Kd.ct (aR cO.out) hb)
    have alj:=k0 (alg (g:=ai) (o:=sO af au aa aq 31) bk hb)
    have bw:=k0 (alg (g:=bg) (o:=.cells #[.slice none 0 0] 28 (0,0)) bk hb)
    have bQ:=k0 (aG bl hb)
    have bZ:=k0 (aJ)
    have cB:=k0 ((by rw [hg];exact (aU bl):w.heap.size≤aX))
    have cM:=k0 ((by rw [hg];exact (aU bl):w.heap.size≤aX))
    have dJ:=k0 ((by rw [hg];exact Nat.ne_of_lt (alq (g:=ai) (o:=sO af au aa aq 31) bk):ai ≠ aX))
    have eX:=k0 ((by rw [hg];exact Nat.ne_of_gt (alq (g:=ai) (o:=sO af au aa aq 31) bk):aX ≠ ai))
    have ke:=k0 ((by rw [hg];exact Nat.ne_of_lt (alq (g:=bg) (o:=.cells #[.slice none 0 0] 28 (0,0)) bk):bg ≠ aX))
    have oH:=k0 ((by rw [hg];exact Nat.ne_of_gt (alq (g:=bg) (o:=.cells #[.slice none 0 0] 28 (0,0)) bk):aX ≠ bg))
    clear a_
    clear cO
    clear ah
    clear dx
    clear HB
    have a_:=aK
    have cO:=alf
    have ah:=alj
    have dx:=bw
    have HB:=bQ
    have cv:=bZ
    have jS:=cB
    have ki:=cM
    have gJ:=dJ
    have iL:=eX
    have jV:=ke
    have ko:=oH
    clear aK alf alj bw bQ bZ cB cM dJ eX ke oH
    clear hb aJ hg
    refine hK.out _ _ ⟨(av ah.out 0).trans rfl,(av ah.out 1).trans rfl⟩ (fun hHeld=>?_)
    clear hK K
    refine dY (a':=?_) ?_ ?_
    rotate_left;· show Act.put _ (some 7) _=_;simp only [Act.put,zI,zZ,zS,cQ,dr];rfl
    exact dY (by first|(simp only [eE,Act.put,zI,zZ,zS];done)|(simp only [eE,Act.put,zI,zZ,zS];rfl)) (JY (dw,gj,aX,bg) _ ⟨hHeld,(aR a_.out),(aR cO.out),bk,bk,bk,jS.out,ki.out,gJ.out,iL.out,jV.out,ko.out,jT.out,kj.out,alM.out,iX.out,bl⟩)
  ·skip
   rintro ⟨dw,gj,aX⟩ eM ⟨jl,iP,dm,cS,alE,fP,j9,alS,mo,qD⟩
   have aK:ak (Kd.R (Kd.int .i64) 2 eM w.heap.size (fun k_=>some k_ ≠ (gj:Value).ownBlock) dw t102):=⟨iP⟩
   have alf:ak (Kd.R (Kd.int .i64) 2 eM w.heap.size (fun k_=>some k_ ≠ (dw:Value).ownBlock) gj t105):=⟨dm⟩
   have alj:ak (eM.heap[ai]?=some (sO af au aa aq 31)):=⟨cS⟩
   have bw:ak (eM.heap[aX]?=some (.cells #[.slice none 0 0] 28 (0,0))):=⟨alE⟩
   have bQ:ak (w.heap.size≤aX):=⟨fP⟩
   have bZ:ak (w.heap.size≤aX):=⟨j9⟩
   have cB:ak (ai ≠ aX):=⟨alS⟩
   have cM:ak (aX ≠ ai):=⟨mo⟩
   have dJ:ak (Below w.heap.size w eM):=⟨qD⟩
   clear ah
   clear HB
   clear iP dm cS alE fP j9 alS mo qD
   have a_:=aK
   have cO:=alf
   have ah:=alj
   have cv:=bw
   have jS:=bQ
   have ki:=bZ
   have gJ:=cB
   have iL:=cM
   have HB:=dJ
   clear aK alf alj bw bQ bZ cB cM dJ
   have hHeld:eM.cell? ⟨ai,0,none⟩=some (.int .i64 af)∧eM.cell? ⟨ai,1,none⟩=some (.slice au aa.length aq):=jl
   refine dY (a':=?_) ?_ ?_
   rotate_left;· simp only [eE,Act.put,zI,zZ,zS];rfl
   refine sG (i:=8) (N:=some 8) (ba 11 511) rfl rfl (lG alc.out (by kernel_rfl)) (by decide) (fun K hK=>?_)
   refine r4 ?hg (N:=8) ?hd (cs:=#[.slice none 0 0]) (t:=28) ?hr ?_;(case hd=>rfl);(case hg=>rfl);(case hr=>first|(go_simp;done)|(go_simp;rfl))
   intro bg hg gM aJ hb
   have aK:=k0 (Kd.ct (aR a_.out) hb)
   have alf:=k0 (Kd.ct (aR cO.out) hb)
   have alj:=k0 (alg (g:=ai) (o:=sO af au aa aq 31) bk hb)
   have bw:=k0 (alg (g:=aX) (o:=.cells #[.slice none 0 0] 28 (0,0)) bk hb)
   have bQ:=k0 (aG bl hb)
   have bZ:=k0 (aJ)
   have cB:=k0 ((by rw [hg];exact (aU bl):w.heap.size≤bg))
   have cM:=k0 ((by rw [hg];exact (aU bl):w.heap.size≤bg))
   have dJ:=k0 ((by rw [hg];exact Nat.ne_of_lt (alq (g:=ai) (o:=sO af au aa aq 31) bk):ai ≠ bg))
   have eX:=k0 ((by rw [hg];exact Nat.ne_of_gt (alq (g:=ai) (o:=sO af au aa aq 31) bk):bg ≠ ai))
   have ke:=k0 ((by rw [hg];exact Nat.ne_of_lt (alq (g:=aX) (o:=.cells #[.slice none 0 0] 28 (0,0)) bk):aX ≠ bg))
   have oH:=k0 ((by rw [hg];exact Nat.ne_of_gt (alq (g:=aX) (o:=.cells #[.slice none 0 0] 28 (0,0)) bk):bg ≠ aX))
   clear a_
   clear cO
   clear ah
   clear cv
   clear HB
   have a_:=aK
   have cO:=alf
   have ah:=alj
   have cv:=bw
   have HB:=bQ
   have dx:=bZ
   have jT:=cB
   have kj:=cM
   have alM:=dJ
   have iX:=eX
   have ko:=ke
   have jV:=oH
   clear aK alf alj bw bQ bZ cB cM dJ eX ke oH
   clear hb aJ hg
   refine hK.out _ _ ⟨(av ah.out 0).trans rfl,(av ah.out 1).trans rfl⟩ (fun hHeld=>?_)
   clear hK K
   refine dY (a':=?_) ?_ ?_
   rotate_left;· show Act.put _ (some 8) _=_;simp only [Act.put,zI,zZ,zS,cQ,dr];rfl
   exact dY (by first|(simp only [eE,Act.put,zI,zZ,zS];done)|(simp only [eE,Act.put,zI,zZ,zS];rfl)) (JY (dw,gj,aX,bg) _ ⟨hHeld,(aR a_.out),(aR cO.out),bk,bk,bk,jS.out,ki.out,gJ.out,iL.out,jV.out,ko.out,jT.out,kj.out,alM.out,iX.out,bl⟩)
 rintro ⟨dw,gj,aX,bg⟩ gM ⟨jl,iP,dm,cS,alE,fP,j9,alS,mo,qD,xL,xH,xI,xJ,xK,CK,PM⟩
 have aK:ak (Kd.R (Kd.int .i64) 2 gM w.heap.size (fun k_=>some k_ ≠ (gj:Value).ownBlock) dw t102):=⟨iP⟩
 have alf:ak (Kd.R (Kd.int .i64) 2 gM w.heap.size (fun k_=>some k_ ≠ (dw:Value).ownBlock) gj t105):=⟨dm⟩
 have alj:ak (gM.heap[ai]?=some (sO af au aa aq 31)):=⟨cS⟩
 have bw:ak (gM.heap[aX]?=some (.cells #[.slice none 0 0] 28 (0,0))):=⟨alE⟩
 have bQ:ak (gM.heap[bg]?=some (.cells #[.slice none 0 0] 28 (0,0))):=⟨fP⟩
 have bZ:ak (w.heap.size≤aX):=⟨j9⟩
 have cB:ak (w.heap.size≤aX):=⟨alS⟩
 have cM:ak (ai ≠ aX):=⟨mo⟩
 have dJ:ak (aX ≠ ai):=⟨qD⟩
 have eX:ak (bg ≠ aX):=⟨xL⟩
 have ke:ak (aX ≠ bg):=⟨xH⟩
 have oH:ak (w.heap.size≤bg):=⟨xI⟩
 have uo:ak (w.heap.size≤bg):=⟨xJ⟩
 have uq:ak (ai ≠ bg):=⟨xK⟩
 have DZ:ak (bg ≠ ai):=⟨CK⟩
 have SZ:ak (Below w.heap.size w gM):=⟨PM⟩
 clear ah
 clear HB
 clear iP dm cS alE fP j9 alS mo qD xL xH xI xJ xK CK PM
 have a_:=aK
 have cO:=alf
 have ah:=alj
 have cv:=bw
 have dx:=bQ
 have jS:=bZ
 have ki:=cB
 have gJ:=cM
 have iL:=dJ
 have jV:=eX
 have ko:=ke
 have jT:=oH
 have kj:=uo
 have alM:=uq
 have iX:=DZ
 have HB:=SZ
 clear aK alf alj bw bQ bZ cB cM dJ eX ke oH uo uq DZ SZ
 have hHeld:gM.cell? ⟨ai,0,none⟩=some (.int .i64 af)∧gM.cell? ⟨ai,1,none⟩=some (.slice au aa.length aq):=jl
 obtain ⟨vw,vW,Fx⟩:=Kd.fh a_.out
 (first|subst Fx|(injection Fx with ox amt nI;have amu:=ox.symm;have amv:=nI.symm;clear ox amt nI;subst amu;subst amv))
 obtain ⟨gh,eW,Ct⟩:=Kd.fh cO.out
 (first|subst Ct|(injection Ct with ox amt nI;have amu:=ox.symm;have amv:=nI.symm;clear ox amt nI;subst amu;subst amv))
 refine dY (a':=?_) ?_ ?_
 rotate_left;· simp only [eE,Act.put,zI,zZ,zS];rfl
 refine sG (i:=9) (N:=none) (ba 11 1023) rfl rfl (lG alc.out (by kernel_rfl)) (by decide) (fun K hK=>?_)
 have aj2:gM.cell? ⟨aX,0,none⟩=some (.slice none 0 0):=(av cv.out 0).trans rfl
 have ah8:=ale cv.out 0
 have ajY:=gJ.out
 have ajZ:=jV.out
 have aiM:=iL.out
 have aiN:=ko.out
 refine qa (w1:=?_) (by rfl) rfl ?_ ?_
 rotate_left;· go_simp;rfl
 refine hK.out _ _ ⟨((cell_far (p:=⟨aX,_,none⟩) gJ.out _).trans (hHeld.1)),((cell_far (p:=⟨aX,_,none⟩) gJ.out _).trans (hHeld.2))⟩ (fun hHeld=>?_)
 clear hK K
 refine sG (i:=10) (N:=none) (ba 11 2047) rfl rfl (lG alc.out (by kernel_rfl)) (by decide) (fun K hK=>?_)
 have aj3:gM.cell? ⟨bg,0,none⟩=some (.slice none 0 0):=(av dx.out 0).trans rfl
 have ah9:=ale dx.out 0
 have aj0:=alM.out
 have aj1:=ko.out
 have aiO:=iX.out
 have aiP:=jV.out
 refine qa (w1:=?_) (by rfl) rfl ?_ ?_
 rotate_left;· go_simp;rfl
 refine hK.out _ _ ⟨((cell_far (p:=⟨bg,_,none⟩) alM.out _).trans (hHeld.1)),((cell_far (p:=⟨bg,_,none⟩) alM.out _).trans (hHeld.2))⟩ (fun hHeld=>?_)
 clear hK K
 refine nH (rz alc.out (by kernel_rfl)) ?_
 have aiV:=gJ.out
 have ajt:=iL.out
 have abH:=alM.out
 have abK:=iX.out
 have sk:gM.cell? ⟨ai,0,none⟩=some (.int .i64 af):=(av ah.out 0).trans rfl
 have xP:gM.cell? ⟨ai,1,none⟩=some (.slice au aa.length aq):=(av ah.out 1).trans rfl
 have sw:=ale ah.out 0
 have xV:=ale ah.out 1
 try go_wp2_with (first|((with_reducible refine cy (N:=9) rfl ?_);refine ec ?hg (N:=9) ?hd (cs:=#[.int .i64 0]) (t:=2) ?hr ?_;(case hd=>rfl);(case hg=>rfl);(case hr=>first|(go_simp;done)|(go_simp;rfl));intro p4 hg pO aJ hb;replace a_:=k0 (Kd.ct (Kd.E4 (by (with_reducible repeat (first|apply Kd.bO|apply Kd.bR|apply Kd.alp));exact (Kd.bx (Kd.bx (Kd.kS (p:=⟨bg,0,none⟩) (Kd.kS (p:=⟨aX,0,none⟩) (Kd.mM (Kd.mM a_.out cv.out (by decide)) dx.out (by decide)) (fun _ hk=>hk.1.2) (.slice vw t102.length vW)) (fun _ hk=>hk.2) (.slice gh t105.length eW)) (fun _ h_=>h_.1)) (fun _ h_=>h_.1))) p4 (Nat.le_of_eq hg.symm)) hb);replace cO:=k0 (Kd.ct (Kd.E4 (by (with_reducible repeat (first|apply Kd.bO|apply Kd.bR|apply Kd.alp));exact (Kd.bx (Kd.bx (Kd.kS (p:=⟨bg,0,none⟩) (Kd.kS (p:=⟨aX,0,none⟩) (Kd.mM (Kd.mM cO.out cv.out (by decide)) dx.out (by decide)) (fun _ hk=>hk.1.2) (.slice vw t102.length vW)) (fun _ hk=>hk.2) (.slice gh t105.length eW)) (fun _ h_=>h_.1)) (fun _ h_=>h_.1))) p4 (Nat.le_of_eq hg.symm)) hb);have fK:=k0 (aJ);have Nc:=k0 ((by rw [hg];exact (aU bl):w.heap.size≤p4));have anI:=Nc;replace HB:=k0 (aG bl hb);have vJ:=k0 ((by rw [hg];exact Nat.ne_of_lt (alq (g:=ai) (o:=sO af au aa aq 31) (by (with_reducible repeat (first|refine cm ?_ _|refine bJ ?_|refine alo ?_ _));refine gD ?_ alM.out _;(with_reducible repeat (first|refine cm ?_ _|refine bJ ?_|refine alo ?_ _));refine gD ?_ gJ.out _;exact bk)):ai ≠ p4));have xk:=k0 ((by rw [hg];exact Nat.ne_of_gt (alq (g:=ai) (o:=sO af au aa aq 31) (by (with_reducible repeat (first|refine cm ?_ _|refine bJ ?_|refine alo ?_ _));refine gD ?_ alM.out _;(with_reducible repeat (first|refine cm ?_ _|refine bJ ?_|refine alo ?_ _));refine gD ?_ gJ.out _;exact bk)):p4 ≠ ai));replace ah:=k0 (alg (g:=ai) (o:=sO af au aa aq 31) (by (with_reducible repeat (first|refine cm ?_ _|refine bJ ?_|refine alo ?_ _));refine gD ?_ alM.out _;(with_reducible repeat (first|refine cm ?_ _|refine bJ ?_|refine alo ?_ _));refine gD ?_ gJ.out _;exact bk) hb);have uI:=k0 ((by rw [hg];exact Nat.ne_of_lt (alq (g:=aX) (o:=.cells #[.slice vw t102.length vW] 28 (0,0)) (by (with_reducible repeat (first|refine cm ?_ _|refine bJ ?_|refine alo ?_ _));refine gD ?_ ko.out _;(with_reducible repeat (first|refine cm ?_ _|refine bJ ?_|refine alo ?_ _));refine pE (cs:=#[.slice none 0 0]) ?_ 0 _ rfl;exact bk)):aX ≠ p4));have rZ:=k0 ((by rw [hg];exact Nat.ne_of_gt (alq (g:=aX) (o:=.cells #[.slice vw t102.length vW] 28 (0,0)) (by (with_reducible repeat (first|refine cm ?_ _|refine bJ ?_|refine alo ?_ _));refine gD ?_ ko.out _;(with_reducible repeat (first|refine cm ?_ _|refine bJ ?_|refine alo ?_ _));refine pE (cs:=#[.slice none 0 0]) ?_ 0 _ rfl;exact bk)):p4 ≠ aX));replace cv:=k0 (alg (g:=aX) (o:=.cells #[.slice vw t102.length vW] 28 (0,0)) (by (with_reducible repeat (first|refine cm ?_ _|refine bJ ?_|refine alo ?_ _));refine gD ?_ ko.out _;(with_reducible repeat (first|refine cm ?_ _|refine bJ ?_|refine alo ?_ _));refine pE (cs:=#[.slice none 0 0]) ?_ 0 _ rfl;exact bk) hb);have yK:=k0 ((by rw [hg];exact Nat.ne_of_lt (alq (g:=bg) (o:=.cells #[.slice gh t105.length eW] 28 (0,0)) (by (with_reducible repeat (first|refine cm ?_ _|refine bJ ?_|refine alo ?_ _));refine pE (cs:=#[.slice none 0 0]) ?_ 0 _ rfl;(with_reducible repeat (first|refine cm ?_ _|refine bJ ?_|refine alo ?_ _));refine gD ?_ jV.out _;exact bk)):bg ≠ p4));have Ar:=k0 ((by rw [hg];exact Nat.ne_of_gt (alq (g:=bg) (o:=.cells #[.slice gh t105.length eW] 28 (0,0)) (by (with_reducible repeat (first|refine cm ?_ _|refine bJ ?_|refine alo ?_ _));refine pE (cs:=#[.slice none 0 0]) ?_ 0 _ rfl;(with_reducible repeat (first|refine cm ?_ _|refine bJ ?_|refine alo ?_ _));refine gD ?_ jV.out _;exact bk)):p4 ≠ bg));replace dx:=k0 (alg (g:=bg) (o:=.cells #[.slice gh t105.length eW] 28 (0,0)) (by (with_reducible repeat (first|refine cm ?_ _|refine bJ ?_|refine alo ?_ _));refine pE (cs:=#[.slice none 0 0]) ?_ 0 _ rfl;(with_reducible repeat (first|refine cm ?_ _|refine bJ ?_|refine alo ?_ _));refine gD ?_ jV.out _;exact bk) hb);clear hb aJ hg;have aiW:=xk.out;have aju:=vJ.out;have aiX:=rZ.out;have ajv:=uI.out;have aiY:=Ar.out;have ajw:=yK.out;have FN:pO.cell? ⟨p4,0,none⟩=some (.int .i64 0):=(av fK.out 0).trans rfl;have FR:=ale fK.out 0))
 go_loopg [9] k (fun kq v9 w'=>∃ (cx:List Int) (qV:List Int) (nW:Int) (u109000:Value) (ej:Nat),v9=.pointer (some ⟨ej,0,none⟩)∧ak (w.heap.size≤ej)∧ak (ai ≠ ej)∧ak (ej ≠ ai)∧ak (aX ≠ ej)∧ak (ej ≠ aX)∧ak (bg ≠ ej)∧ak (ej ≠ bg)∧ak (alu.l0 kq a2 cx af aa qV nW=some r)∧ak (kq≤k)∧ak (Kd.R (Kd.int .i64) 2 w' w.heap.size (fun k_=>some k_ ≠ (u109000:Value).ownBlock∧k_ ≠ ej) (.slice gh t105.length eW) cx)∧ak (Kd.R (Kd.int .i64) 2 w' w.heap.size (fun k_=>some k_ ≠ ((.slice gh t105.length eW):Value).ownBlock∧k_ ≠ ej) u109000 qV)∧ak (w'.heap[ai]?=some (sO af au aa aq 31))∧ak (w'.heap[aX]?=some (.cells #[u109000] 28 (0,0)))∧ak (w'.heap[bg]?=some (.cells #[(.slice gh t105.length eW)] 28 (0,0)))∧ak (w'.heap[ej]?=some (.cells #[.int .i64 nW] 2 (0,0)))∧ak (Below w.heap.size w w'))
 case atStart=>exact ⟨(t105),(t102),(af),(.slice vw t102.length vW),p4,rs,⟨anI.out⟩,vJ,xk,uI,rZ,yK,Ar,H',⟨Nat.le_refl _⟩,⟨aR (Kd.bx (Kd.kS (p:=⟨p4,0,none⟩) (Kd.bx cO.out (fun k_ hk=>(⟨hk,hk.2⟩:_∧k_ ≠ p4))) (fun _ hk=>hk.2) (.int .i64 af)) (fun _ hk=>⟨hk.1.1,hk.1.2⟩))⟩,⟨aR (Kd.bx (Kd.kS (p:=⟨p4,0,none⟩) (Kd.bx a_.out (fun k_ hk=>(⟨hk,hk.2⟩:_∧k_ ≠ p4))) (fun _ hk=>hk.2) (.int .i64 af)) (fun _ hk=>⟨hk.1.1,hk.1.2⟩))⟩,⟨by (with_reducible repeat (first|refine cm ?_ _|refine bJ ?_|refine alo ?_ _));refine gD ?_ vJ.out _;exact bk⟩,⟨by (with_reducible repeat (first|refine cm ?_ _|refine bJ ?_|refine alo ?_ _));refine gD ?_ uI.out _;exact bk⟩,⟨by (with_reducible repeat (first|refine cm ?_ _|refine bJ ?_|refine alo ?_ _));refine gD ?_ yK.out _;exact bk⟩,⟨by (with_reducible repeat (first|refine cm ?_ _|refine bJ ?_|refine alo ?_ _));refine pE (cs:=#[.int .i64 0]) ?_ 0 _ rfl;exact bk⟩,⟨bl⟩⟩
 case round =>
  clear H'
  (try clear sk);(try clear xP);(try clear FN);(try clear sw);(try clear xV);(try clear FR)
  obtain ⟨cx,qV,nW,u109000,ej,rfl,anI,vJ,xk,uI,rZ,yK,Ar,HA,aM,eO,cR,ah,cv,dx,fK,HB⟩:=hrel
  have Nc:=anI
  have cH:=(Kd.bn eO.out).1
  rw [cH] at eO
  (try simp only [cH])
  (try simp only [cH] at ah)
  (try simp only [cH] at cv)
  (try simp only [cH] at dx)
  (try simp only [cH] at fK)
  (try simp only [cH] at cR)
  cases gk with
  | zero=>exact absurd HA.out (by simp [alu.l0])
  | succ k1 =>
   have H:=HA.out
   clear HA
   simp only [alu.l0] at H
   by_cases c25:nW > 0
   case neg =>
    rw [if_neg c25] at H
    have vR:decide (0 < nW)=false:=decide_eq_false c25
    clear c25
    replace H:=Option.bind_eq_some_iff.mp H
    obtain ⟨t123,MD,H⟩:=H
    replace H:(alu.l3 k1 a2 t123 af aa qV)=some r:=H
    have Uc:=k0 MD
    clear MD
    have H':=k0 H
    clear H
    have aje:=xk.out
    have ajO:=vJ.out
    have ajf:=rZ.out
    have ajP:=uI.out
    have ajg:=Ar.out
    have ajQ:=yK.out
    have aa6:wr.cell? ⟨ej,0,none⟩=some (.int .i64 nW):=(av fK.out 0).trans rfl
    have abx:=ale fK.out 0
    have ajh:=gJ.out
    have ajR:=iL.out
    have aji:=alM.out
    have ajS:=iX.out
    have aa7:wr.cell? ⟨ai,0,none⟩=some (.int .i64 af):=(av ah.out 0).trans rfl
    have aa8:wr.cell? ⟨ai,1,none⟩=some (.slice au aa.length aq):=(av ah.out 1).trans rfl
    have aby:=ale ah.out 0
    have abz:=ale ah.out 1
    have ajj:=ko.out
    have ajT:=jV.out
    have aa9:wr.cell? ⟨aX,0,none⟩=some (u109000):=(av cv.out 0).trans rfl
    have abA:=ale cv.out 0
    obtain ⟨Hj,Jp,Zl⟩:=Kd.fh cR.out
    subst Zl
    go_wp2_with (first|((with_reducible refine fo (f:=187) rfl ?_);refine fq (some 56) rfl rfl Try.func187 (by kernel_rfl) rfl #[.agg #[.int .i64 af,.slice au aa.length aq],.slice Hj qV.length Jp,.int .i64 a2] rfl gm ?_;(with_reducible refine (alv.calls k1 af _ _ aa _ _ qV a2 t123 _ ?bt ?bu ?dZ ?ez Uc.out).mono ?_);(case bt=>exact aC (Kd.bI alx.out HB.out));(case bu=>exact di.out);(case dZ=>exact aC ((Kd.bn cR.out).2.2));(case ez=>exact (Kd.bn cR.out).2.1);rintro e w89 ⟨v124,rfl,C9,aY,hb⟩;refine ⟨_,rfl,?_⟩;have anS:=k0 C9;clear C9;have aK:=k0 (Kd.gK (aR eO.out) (Kd.dV aY) hb);have alf:=k0 (Kd.gK (aR cR.out) (Kd.dV aY) hb);have alj:=k0 (Kd.d_ (Kd.yM (Kd.alF (Kd.alF aY (Kd.eZ (aR eO.out))) (Kd.eZ (aR cR.out))) (g:=ej) (o:=.cells #[.int .i64 nW] 2 (0,0)) bk) (aU bl));have bw:=k0 (alg (g:=ai) (o:=sO af au aa aq 31) bk hb);have bQ:=k0 (alg (g:=aX) (o:=.cells #[.slice Hj qV.length Jp] 28 (0,0)) bk hb);have bZ:=k0 (alg (g:=bg) (o:=.cells #[.slice gh cx.length eW] 28 (0,0)) bk hb);have cB:=k0 (alg (g:=ej) (o:=.cells #[.int .i64 nW] 2 (0,0)) bk hb);have cM:=k0 (aG bl hb);clear eO;clear cR;clear ah;clear cv;clear dx;clear fK;clear HB;have eO:=aK;have cR:=alf;have Vm:=alj;have ah:=bw;have cv:=bQ;have dx:=bZ;have fK:=cB;have HB:=cM;clear aK alf alj bw bQ bZ cB cM;(try clear hb);(try clear aY)))
    go_loopg [12] k1 (fun kq v12 w'=>∃ (al2:List Int) (vr:List Int) (u109000:Value),ak (al2=[]→v12=.slice none 0 0)∧ak (alu.l3 kq a2 al2 af aa vr=some r)∧ak (kq≤k1)∧ak (Kd.R (Kd.int .i64) 2 w' w.heap.size (fun k_=>some k_ ≠ (u109000:Value).ownBlock∧some k_ ≠ ((.slice gh cx.length eW):Value).ownBlock∧k_ ≠ ej) v12 al2)∧ak (Kd.R (Kd.int .i64) 2 w' w.heap.size (fun k_=>some k_ ≠ (v12:Value).ownBlock∧some k_ ≠ ((.slice gh cx.length eW):Value).ownBlock∧k_ ≠ ej) u109000 vr)∧ak (Kd.R (Kd.int .i64) 2 w' w.heap.size (fun k_=>some k_ ≠ (v12:Value).ownBlock∧some k_ ≠ (u109000:Value).ownBlock∧k_ ≠ ej) (.slice gh cx.length eW) cx)∧ak (w'.heap[ai]?=some (sO af au aa aq 31))∧ak (w'.heap[aX]?=some (.cells #[u109000] 28 (0,0)))∧ak (w'.heap[bg]?=some (.cells #[(.slice gh cx.length eW)] 28 (0,0)))∧ak (w'.heap[ej]?=some (.cells #[.int .i64 nW] 2 (0,0)))∧ak (Below w.heap.size w w'))
    case atStart=>exact ⟨(t123),(qV),(.slice Hj qV.length Jp),anS,H',⟨Nat.le_refl _⟩,⟨by (try simp only [cH]);(with_reducible repeat (first|apply Kd.bO|apply Kd.bR|apply Kd.alp));exact Kd.bx Vm.out (fun _ hk=>⟨hk.1.2,⟨hk.1.1.2,hk.2⟩⟩)⟩,⟨by (try simp only [cH]);(with_reducible repeat (first|apply Kd.bO|apply Kd.bR|apply Kd.alp));exact Kd.bx cR.out (fun _ hk=>⟨hk.2,⟨hk.1.1,hk.1.2⟩⟩)⟩,⟨by (try simp only [cH]);(with_reducible repeat (first|apply Kd.bO|apply Kd.bR|apply Kd.alp));exact Kd.bx eO.out (fun _ hk=>⟨hk.2,⟨hk.1.1,hk.1.2⟩⟩)⟩,⟨by (try simp only [cH]);exact bk⟩,⟨by (try simp only [cH]);exact bk⟩,⟨by (try simp only [cH]);exact bk⟩,⟨by (try simp only [cH]);exact bk⟩,⟨bl⟩⟩
    case round =>
     clear H'
     (try clear c25);(try clear vR);(try clear c26);(try clear xx);(try clear Jd);(try clear c27);(try clear amp);(try clear Ck);(try clear c38);(try clear xy);(try clear c39);(try clear Fm);(try clear c40);(try clear vT);(try clear c41);(try clear AU);(try clear c42);(try clear xz);(try clear zX);(try clear zY);(try clear c50);(try clear sk);(try clear xP);(try clear FN);(try clear Kn);(try clear Ko);(try clear Kp);(try clear aaX);(try clear aaY);(try clear aaZ);(try clear aa0);(try clear an_);(try clear aa2);(try clear aa3);(try clear aa4);(try clear aa5);(try clear aa6);(try clear aa7);(try clear aa8);(try clear aa9);(try clear sw);(try clear xV);(try clear FR);(try clear KB);(try clear KC);(try clear KD);(try clear abn);(try clear abo);(try clear abp);(try clear abq);(try clear abr);(try clear abt);(try clear abu);(try clear abv);(try clear abw);(try clear abx);(try clear aby);(try clear abz);(try clear abA);(try clear je);(try clear Sd);(try clear iH);(try clear zX);(try clear iI);(try clear zY)
     obtain ⟨al2,vr,u109000,Vi,HA,bp,gC,cR,fe,ah,cv,dx,fK,HB⟩:=hrel
     cases gk with
     | zero=>exact absurd HA.out (by simp [alu.l3])
     | succ k2 =>
      have H:=HA.out
      clear HA
      simp only [alu.l3] at H
      by_cases c90:(al2.length:Int)=0
      case neg =>
       rw [if_neg c90] at H
       have Ji:((al2.length:Int) == 0)=false:=beq_eq_false_iff_ne.mpr c90
       (try simp only [cH] at Ji)
       have Jj:((al2.length:Int) != 0)=true:=bne_iff_ne.mpr c90
       (try simp only [cH] at Jj)
       have agI:¬ (al2=[]):=fun h_=>c90 (by rw [h_];rfl)
       replace H:=Option.bind_eq_some_iff.mp H
       obtain ⟨t126,MG,H⟩:=H
       replace H:((alv.f k2 af aa t126 a2).bind fun t129=>(alu.l3 k2 a2 t129 af aa t126))=some r:=H
       have Ud:=k0 MG
       clear MG
       replace H:=Option.bind_eq_some_iff.mp H
       obtain ⟨t129,MH,H⟩:=H
       replace H:(alu.l3 k2 a2 t129 af aa t126)=some r:=H
       have Ue:=k0 MH
       clear MH
       have H':=k0 H
       clear H
       obtain ⟨EC,Jq,Zm⟩:=Kd.fh gC.out
       subst Zm
       have aj4:Option.isNone EC=false:=(by obtain ⟨ahp,agM,Zw,_⟩:=Kd.kT gC.out (by omega);injection Zw with Y5 _ _;rw [Y5];rfl)
       have q_:=S1
       have ajn:=gJ.out
       have ajX:=iL.out
       have aiQ:=alM.out
       have ajo:=iX.out
       have aiR:=vJ.out
       have ajp:=xk.out
       have ahG:wr.cell? ⟨ai,0,none⟩=some (.int .i64 af):=(av ah.out 0).trans rfl
       have ahH:wr.cell? ⟨ai,1,none⟩=some (.slice au aa.length aq):=(av ah.out 1).trans rfl
       have aib:=ale ah.out 0
       have aic:=ale ah.out 1
       have aiS:=ko.out
       have ajq:=jV.out
       have aiT:=uI.out
       have ajr:=rZ.out
       have ahI:wr.cell? ⟨aX,0,none⟩=some (u109000):=(av cv.out 0).trans rfl
       have aid:=ale cv.out 0
       obtain ⟨Ac,AY,Y9⟩:=Kd.fh cR.out
       subst Y9
       go_wp2_with (first|((with_reducible refine fo (f:=186) rfl ?_);refine fq (some 66) rfl rfl Try.func186 (by kernel_rfl) rfl #[.agg #[.int .i64 af,.slice au aa.length aq],.slice Ac vr.length AY,.slice EC al2.length Jq] rfl gm ?_;(with_reducible refine (cG.calls k2 af _ _ aa _ _ vr _ _ al2 t126 _ ?bt ?bu ?dZ ?ez ?rO ?rP Ud.out).mono ?_);(case bt=>exact aC (Kd.bI alx.out HB.out));(case bu=>exact di.out);(case dZ=>exact aC ((Kd.bn cR.out).2.2));(case ez=>exact (Kd.bn cR.out).2.1);(case rO=>exact aC ((Kd.bn gC.out).2.2));(case rP=>exact (Kd.bn gC.out).2.1);rintro e Mg ⟨v127,rfl,aY,hb⟩;refine ⟨_,rfl,?_⟩;have aK:=k0 (Kd.gK (aR gC.out) (Kd.dV aY) hb);have alf:=k0 (Kd.gK (aR cR.out) (Kd.dV aY) hb);have alj:=k0 (Kd.gK (aR fe.out) (Kd.dV aY) hb);have bw:=k0 (Kd.d_ (Kd.yM (Kd.alF (Kd.alF (Kd.alF aY (Kd.eZ (aR gC.out))) (Kd.eZ (aR cR.out))) (Kd.eZ (aR fe.out))) (g:=ej) (o:=.cells #[.int .i64 nW] 2 (0,0)) bk) (aU bl));have bQ:=k0 (alg (g:=ai) (o:=sO af au aa aq 31) bk hb);have bZ:=k0 (alg (g:=aX) (o:=.cells #[.slice Ac vr.length AY] 28 (0,0)) bk hb);have cB:=k0 (alg (g:=bg) (o:=.cells #[.slice gh cx.length eW] 28 (0,0)) bk hb);have cM:=k0 (alg (g:=ej) (o:=.cells #[.int .i64 nW] 2 (0,0)) bk hb);have dJ:=k0 (aG bl hb);clear gC;clear cR;clear fe;clear ah;clear cv;clear dx;clear fK;clear HB;have gC:=aK;have cR:=alf;have fe:=alj;have uH:=bw;have ah:=bQ;have cv:=bZ;have dx:=cB;have fK:=cM;have HB:=dJ;clear aK alf alj bw bQ bZ cB cM dJ;(try clear hb);(try clear aY);obtain ⟨qZ,pZ,Y_⟩:=Kd.fh uH.out;subst Y_;have ahJ:Mg.cell? ⟨aX,0,none⟩=some (.slice Ac vr.length AY):=(av cv.out 0).trans rfl;have aie:=ale cv.out 0;have ahK:Mg.cell? ⟨ai,0,none⟩=some (.int .i64 af):=(av ah.out 0).trans rfl;have ahL:Mg.cell? ⟨ai,1,none⟩=some (.slice au aa.length aq):=(av ah.out 1).trans rfl;have aif:=ale ah.out 0;have aih:=ale ah.out 1)|((with_reducible refine fo (f:=187) rfl ?_);refine fq (some 62) rfl rfl Try.func187 (by kernel_rfl) rfl #[.agg #[.int .i64 af,.slice au aa.length aq],.slice qZ t126.length pZ,.int .i64 a2] rfl gm ?_;(with_reducible refine (alv.calls k2 af _ _ aa _ _ t126 a2 t129 _ ?bt ?bu ?dZ ?ez Ue.out).mono ?_);(case bt=>exact Kd.bI alx.out bl);(case bu=>exact di.out);(case dZ=>first|(refine (Kd.bn (e:=2) (base:=w.heap.size) (ok:=fun k_=>((((True∧some k_ ≠ (.slice EC al2.length Jq:Value).ownBlock)∧some k_ ≠ (.slice Ac vr.length AY:Value).ownBlock)∧some k_ ≠ (.slice gh cx.length eW:Value).ownBlock)∧k_ ≠ ej)) (n:=t126.length) (c:=pZ) ?_).2.2;exact (by (with_reducible repeat (first|apply Kd.bO|apply Kd.bR|apply Kd.alp));exact (Kd.bx (Kd.kS (p:=⟨aX,0,none⟩) (Kd.mM uH.out cv.out (by decide)) (fun _ hk=>hk.2) (.slice qZ t126.length pZ)) (fun _ h_=>h_.1))))|(refine (Kd.bn (e:=2) (base:=w.heap.size) (ok:=fun k_=>(((some k_ ≠ (.slice EC al2.length Jq:Value).ownBlock∧some k_ ≠ (.slice Ac vr.length AY:Value).ownBlock)∧some k_ ≠ (.slice gh cx.length eW:Value).ownBlock)∧k_ ≠ ej)) (n:=t126.length) (c:=pZ) ?_).2.2;exact (by (with_reducible repeat (first|apply Kd.bO|apply Kd.bR|apply Kd.alp));exact (Kd.bx (Kd.kS (p:=⟨aX,0,none⟩) (Kd.mM uH.out cv.out (by decide)) (fun _ hk=>hk.2) (.slice qZ t126.length pZ)) (fun _ h_=>h_.1)))));(case ez=>exact (Kd.bn uH.out).2.1);rintro e ak_ ⟨v130,rfl,C9,aY,hb⟩;refine ⟨_,rfl,?_⟩;have anS:=k0 C9;clear C9;have xg:=k0 (Kd.d_ (Kd.yM (Kd.alF (Kd.alF (Kd.alF (Kd.alF aY (Kd.eZ (by (with_reducible repeat (first|apply Kd.bO|apply Kd.bR|apply Kd.alp));exact (Kd.bx (Kd.kS (p:=⟨aX,0,none⟩) (Kd.mM gC.out cv.out (by decide)) (fun _ hk=>hk.2) (.slice qZ t126.length pZ)) (fun _ h_=>h_.1))))) (Kd.eZ (by (with_reducible repeat (first|apply Kd.bO|apply Kd.bR|apply Kd.alp));exact (Kd.bx (Kd.kS (p:=⟨aX,0,none⟩) (Kd.mM cR.out cv.out (by decide)) (fun _ hk=>hk.2) (.slice qZ t126.length pZ)) (fun _ h_=>h_.1))))) (Kd.eZ (by (with_reducible repeat (first|apply Kd.bO|apply Kd.bR|apply Kd.alp));exact (Kd.bx (Kd.kS (p:=⟨aX,0,none⟩) (Kd.mM fe.out cv.out (by decide)) (fun _ hk=>hk.2) (.slice qZ t126.length pZ)) (fun _ h_=>h_.1))))) (Kd.eZ (by (with_reducible repeat (first|apply Kd.bO|apply Kd.bR|apply Kd.alp));exact (Kd.bx (Kd.kS (p:=⟨aX,0,none⟩) (Kd.mM uH.out cv.out (by decide)) (fun _ hk=>hk.2) (.slice qZ t126.length pZ)) (fun _ h_=>h_.1))))) (g:=ej) (o:=.cells #[.int .i64 nW] 2 (0,0)) (by (with_reducible repeat (first|refine cm ?_ _|refine bJ ?_|refine alo ?_ _));refine gD ?_ rZ.out _;exact bk)) (aU bl));replace gC:=k0 (Kd.gK (by (with_reducible repeat (first|apply Kd.bO|apply Kd.bR|apply Kd.alp));exact (Kd.bx (Kd.kS (p:=⟨aX,0,none⟩) (Kd.mM gC.out cv.out (by decide)) (fun _ hk=>hk.2) (.slice qZ t126.length pZ)) (fun _ h_=>h_.1))) (Kd.dV aY) hb);replace cR:=k0 (Kd.gK (by (with_reducible repeat (first|apply Kd.bO|apply Kd.bR|apply Kd.alp));exact (Kd.bx (Kd.kS (p:=⟨aX,0,none⟩) (Kd.mM cR.out cv.out (by decide)) (fun _ hk=>hk.2) (.slice qZ t126.length pZ)) (fun _ h_=>h_.1))) (Kd.dV aY) hb);replace fe:=k0 (Kd.gK (by (with_reducible repeat (first|apply Kd.bO|apply Kd.bR|apply Kd.alp));exact (Kd.bx (Kd.kS (p:=⟨aX,0,none⟩) (Kd.mM fe.out cv.out (by decide)) (fun _ hk=>hk.2) (.slice qZ t126.length pZ)) (fun _ h_=>h_.1))) (Kd.dV aY) hb);replace uH:=k0 (Kd.gK (by (with_reducible repeat (first|apply Kd.bO|apply Kd.bR|apply Kd.alp));exact (Kd.bx (Kd.kS (p:=⟨aX,0,none⟩) (Kd.mM uH.out cv.out (by decide)) (fun _ hk=>hk.2) (.slice qZ t126.length pZ)) (fun _ h_=>h_.1))) (Kd.dV aY) hb);replace ah:=k0 (alg (g:=ai) (o:=sO af au aa aq 31) (by (with_reducible repeat (first|refine cm ?_ _|refine bJ ?_|refine alo ?_ _));refine gD ?_ gJ.out _;exact bk) hb);replace cv:=k0 (alg (g:=aX) (o:=.cells #[.slice qZ t126.length pZ] 28 (0,0)) (by (with_reducible repeat (first|refine cm ?_ _|refine bJ ?_|refine alo ?_ _));refine pE (cs:=#[.slice Ac vr.length AY]) ?_ 0 _ rfl;exact bk) hb);replace dx:=k0 (alg (g:=bg) (o:=.cells #[.slice gh cx.length eW] 28 (0,0)) (by (with_reducible repeat (first|refine cm ?_ _|refine bJ ?_|refine alo ?_ _));refine gD ?_ jV.out _;exact bk) hb);replace fK:=k0 (alg (g:=ej) (o:=.cells #[.int .i64 nW] 2 (0,0)) (by (with_reducible repeat (first|refine cm ?_ _|refine bJ ?_|refine alo ?_ _));refine gD ?_ rZ.out _;exact bk) hb);replace HB:=k0 (aG bl hb);(try clear hb);(try clear aY)))
       go_roundg k2
       case measure=>have:=aM.out;have:=bp.out;omega
       case rel=>exact ⟨(t129),(t126),(.slice qZ t126.length pZ),anS,H',⟨by have:=aM.out;have:=bp.out;omega⟩,⟨by (try simp only [cH]);(with_reducible repeat (first|apply Kd.bO|apply Kd.bR|apply Kd.alp));exact Kd.bx xg.out (fun _ hk=>⟨hk.1.2,⟨hk.1.1.2,hk.2⟩⟩)⟩,⟨by (try simp only [cH]);(with_reducible repeat (first|apply Kd.bO|apply Kd.bR|apply Kd.alp));exact Kd.bx uH.out (fun _ hk=>⟨hk.2,⟨hk.1.1.2,hk.1.2⟩⟩)⟩,⟨by (try simp only [cH]);(with_reducible repeat (first|apply Kd.bO|apply Kd.bR|apply Kd.alp));exact Kd.bx fe.out (fun _ hk=>⟨hk.2,⟨hk.1.2,hk.1.1.2.2⟩⟩)⟩,⟨by (try simp only [cH]);exact bk⟩,⟨by (try simp only [cH]);exact bk⟩,⟨by (try simp only [cH]);exact bk⟩,⟨by (try simp only [cH]);exact bk⟩,⟨bl⟩⟩
      rw [if_pos c90] at H
      have Ji:((al2.length:Int) == 0)=true:=beq_iff_eq.mpr c90
      (try simp only [cH] at Ji)
      have Jj:((al2.length:Int) != 0)=false:=bne_eq_false_iff_eq.mpr c90
      (try simp only [cH] at Jj)
      have ab0:=Vi.out (List.eq_nil_of_length_eq_zero (by omega))
      subst ab0
      clear c90
      obtain rfl:=Option.some.inj H
      have q_:=S1
      have ajk:=iL.out
      have ajU:=gJ.out
      have ajl:=ko.out
      have ajV:=jV.out
      have ajm:=uI.out
      have ajW:=rZ.out
      have ahV:wr.cell? ⟨aX,0,none⟩=some (u109000):=(av cv.out 0).trans rfl
      have air:=ale cv.out 0
      go_wp2
      go_ret
      exact ⟨_,by first|rfl|(simp [bA,bB]<;>rfl)|(simp [*,bA,bB]<;>rfl),by (with_reducible repeat (first|apply Kd.bO|apply Kd.bR|apply Kd.alp));exact Kd.bx cR.out (fun _ hk=>trivial),bl⟩
   rw [if_pos c25] at H
   have vR:=decide_eq_true c25
   clear c25
   replace H:=iS H;obtain ⟨c26,H⟩:=H
   have xx:=eq_true c26
   have Jd:=decide_eq_true c26
   clear c26
   replace H:=iS H;obtain ⟨c27,H⟩:=H
   have amp:=eq_true c27
   have Ck:=decide_eq_true c27
   clear c27
   obtain ⟨qY,DE⟩:∃ y_:List Int,y_=(List.replicate (af:Int).toNat 0):=⟨_,rfl⟩
   replace H:(alu.l1 k1 a2 qY cx (qY.length:Int) 0 af aa qV cx nW)=some r:=by first|(rw [DE];with_reducible exact H)|(have ax:=(Option.bind_some _ _).symm.trans H;rw [DE];with_reducible exact ax)|(have ax:=(Option.bind_some _ _).symm.trans H;with_reducible exact ax)|with_reducible exact H|(rw [DE];exact H)|exact H
   have NZ:=k0 DE
   clear DE
   have H':=k0 H
   clear H
   have aiZ:=xk.out
   have ajx:=vJ.out
   have ai0:=rZ.out
   have ajy:=uI.out
   have ai1:=Ar.out
   have ajz:=yK.out
   have Kn:wr.cell? ⟨ej,0,none⟩=some (.int .i64 nW):=(av fK.out 0).trans rfl
   have KB:=ale fK.out 0
   have ai2:=gJ.out
   have ajA:=iL.out
   have ai3:=alM.out
   have ajB:=iX.out
   have Ko:wr.cell? ⟨ai,0,none⟩=some (.int .i64 af):=(av ah.out 0).trans rfl
   have Kp:wr.cell? ⟨ai,1,none⟩=some (.slice au aa.length aq):=(av ah.out 1).trans rfl
   have KC:=ale ah.out 0
   have KD:=ale ah.out 1
   go_wp2_with (first|((with_reducible refine cy (N:=28) rfl ?_);refine Kd.yL (Kd.int .i64) _ 2 rfl (N:=28) rfl 28 _ _ rfl af rfl rfl Try.underlying28 (.int .i64 0) 8 lF rfl (by decide) (by omega) 0 (ok:=fun _=>True) (cC:=fun _=>True) rfl (fun _ hk=>hk) trivial oD (Nat.le_trans (Nat.mul_le_mul_right _ (oD:af.toNat≤35184372088832)) (by omega)) (Below.refl _ _) (Nat.le_refl _) ?_;intro akw vq qL hb ew ey;clear ew ey;(first|rw [← NZ.out] at qL|(simp only [Int.reduceToNat] at qL;rw [← NZ.out] at qL));have aK:=k0 (Kd.gK (aR eO.out) (Kd.dV qL) hb);have alf:=k0 (Kd.gK (aR cR.out) (Kd.dV qL) hb);have alj:=k0 (Kd.d_ (Kd.yM (Kd.alF (Kd.alF qL (Kd.eZ (aR eO.out))) (Kd.eZ (aR cR.out))) (g:=ej) (o:=.cells #[.int .i64 nW] 2 (0,0)) bk) (aU bl));have bw:=k0 (alg (g:=ai) (o:=sO af au aa aq 31) bk hb);have bQ:=k0 (alg (g:=aX) (o:=.cells #[u109000] 28 (0,0)) bk hb);have bZ:=k0 (alg (g:=bg) (o:=.cells #[.slice gh cx.length eW] 28 (0,0)) bk hb);have cB:=k0 (alg (g:=ej) (o:=.cells #[.int .i64 nW] 2 (0,0)) bk hb);have cM:=k0 (aG bl hb);clear eO;clear cR;clear ah;clear cv;clear dx;clear fK;clear HB;have eO:=aK;have cR:=alf;have Ny:=alj;have ah:=bw;have cv:=bQ;have dx:=bZ;have fK:=cB;have HB:=cM;clear aK alf alj bw bQ bZ cB cM;clear hb qL;obtain ⟨vz,pG,Zc⟩:=Kd.fh Ny.out;subst Zc))
   go_loopg [31] k1 (fun kq v31 w'=>∃ (jP:List Int) (j5:Int) (gV:Int),v31=.int .i64 j5∧ak (alu.l1 kq a2 jP cx (qY.length:Int) j5 af aa qV cx gV=some r)∧ak (kq≤k1)∧ak (Kd.R (Kd.int .i64) 2 w' w.heap.size (fun k_=>some k_ ≠ ((.slice gh cx.length eW):Value).ownBlock∧some k_ ≠ (u109000:Value).ownBlock∧some k_ ≠ ((.slice gh cx.length eW):Value).ownBlock∧k_ ≠ ej) (.slice vz qY.length pG) jP)∧ak (Kd.R (Kd.int .i64) 2 w' w.heap.size (fun k_=>some k_ ≠ ((.slice vz qY.length pG):Value).ownBlock∧some k_ ≠ (u109000:Value).ownBlock∧k_ ≠ ej) (.slice gh cx.length eW) cx)∧ak (Kd.R (Kd.int .i64) 2 w' w.heap.size (fun k_=>some k_ ≠ ((.slice vz qY.length pG):Value).ownBlock∧some k_ ≠ ((.slice gh cx.length eW):Value).ownBlock∧some k_ ≠ ((.slice gh cx.length eW):Value).ownBlock∧k_ ≠ ej) u109000 qV)∧ak (Kd.R (Kd.int .i64) 2 w' w.heap.size (fun k_=>some k_ ≠ ((.slice vz qY.length pG):Value).ownBlock∧some k_ ≠ (u109000:Value).ownBlock∧k_ ≠ ej) (.slice gh cx.length eW) cx)∧ak (w'.heap[ai]?=some (sO af au aa aq 31))∧ak (w'.heap[aX]?=some (.cells #[u109000] 28 (0,0)))∧ak (w'.heap[bg]?=some (.cells #[(.slice gh cx.length eW)] 28 (0,0)))∧ak (w'.heap[ej]?=some (.cells #[.int .i64 gV] 2 (0,0)))∧ak (Below w.heap.size w w'))
   case atStart=>exact ⟨(qY),(0),(nW),rs,H',⟨Nat.le_refl _⟩,⟨by (try simp only [cH]);(with_reducible repeat (first|apply Kd.bO|apply Kd.bR|apply Kd.alp));exact Kd.bx Ny.out (fun _ hk=>⟨hk.1.1.2,⟨hk.1.2,⟨hk.1.1.2,hk.2⟩⟩⟩)⟩,⟨by (try simp only [cH]);(with_reducible repeat (first|apply Kd.bO|apply Kd.bR|apply Kd.alp));exact Kd.bx eO.out (fun _ hk=>⟨hk.2,⟨hk.1.1,hk.1.2⟩⟩)⟩,⟨by (try simp only [cH]);(with_reducible repeat (first|apply Kd.bO|apply Kd.bR|apply Kd.alp));exact Kd.bx cR.out (fun _ hk=>⟨hk.2,⟨hk.1.1,⟨hk.1.1,hk.1.2⟩⟩⟩)⟩,⟨by (try simp only [cH]);(with_reducible repeat (first|apply Kd.bO|apply Kd.bR|apply Kd.alp));exact Kd.bx eO.out (fun _ hk=>⟨hk.2,⟨hk.1.1,hk.1.2⟩⟩)⟩,⟨by (try simp only [cH]);exact bk⟩,⟨by (try simp only [cH]);exact bk⟩,⟨by (try simp only [cH]);exact bk⟩,⟨by (try simp only [cH]);exact bk⟩,⟨bl⟩⟩
   case round =>
    clear H'
    (try clear c25);(try clear vR);(try clear c26);(try clear xx);(try clear Jd);(try clear c27);(try clear amp);(try clear Ck);(try clear sk);(try clear xP);(try clear FN);(try clear Kn);(try clear Ko);(try clear Kp);(try clear sw);(try clear xV);(try clear FR);(try clear KB);(try clear KC);(try clear KD)
    obtain ⟨jP,j5,gV,rfl,HA,bp,fV,eO,cR,fe,ah,cv,dx,fK,HB⟩:=hrel
    have eC:=(Kd.bn fV.out).1
    rw [eC] at fV
    (try simp only [eC])
    (try simp only [eC] at ah)
    (try simp only [eC] at cv)
    (try simp only [eC] at dx)
    (try simp only [eC] at fK)
    (try simp only [eC] at eO)
    (try simp only [eC] at cR)
    (try simp only [eC] at fe)
    cases gk with
    | zero=>exact absurd HA.out (by simp [alu.l1])
    | succ k2 =>
     have H:=HA.out
     clear HA
     simp only [alu.l1] at H
     by_cases c38:j5 < (qY.length:Int)
     case neg =>
      rw [if_neg c38] at H
      have xy:decide (j5 < (qY.length:Int))=false:=decide_eq_false c38
      (try simp only [cH,eC] at xy)
      clear c38
      have H':=k0 H
      clear H
      go_wp2
      go_loopg [] k2 (fun kq w'=>∃ (kK:List Int) (u109000:Value),ak (alu.l2 kq a2 jP cx af aa kK cx gV=some r)∧ak (kq≤k2)∧ak (Kd.R (Kd.int .i64) 2 w' w.heap.size (fun k_=>some k_ ≠ ((.slice gh cx.length eW):Value).ownBlock∧some k_ ≠ (u109000:Value).ownBlock∧some k_ ≠ ((.slice gh cx.length eW):Value).ownBlock∧k_ ≠ ej) (.slice vz jP.length pG) jP)∧ak (Kd.R (Kd.int .i64) 2 w' w.heap.size (fun k_=>some k_ ≠ ((.slice vz jP.length pG):Value).ownBlock∧some k_ ≠ (u109000:Value).ownBlock∧k_ ≠ ej) (.slice gh cx.length eW) cx)∧ak (Kd.R (Kd.int .i64) 2 w' w.heap.size (fun k_=>some k_ ≠ ((.slice vz jP.length pG):Value).ownBlock∧some k_ ≠ ((.slice gh cx.length eW):Value).ownBlock∧some k_ ≠ ((.slice gh cx.length eW):Value).ownBlock∧k_ ≠ ej) u109000 kK)∧ak (Kd.R (Kd.int .i64) 2 w' w.heap.size (fun k_=>some k_ ≠ ((.slice vz jP.length pG):Value).ownBlock∧some k_ ≠ (u109000:Value).ownBlock∧k_ ≠ ej) (.slice gh cx.length eW) cx)∧ak (w'.heap[ai]?=some (sO af au aa aq 31))∧ak (w'.heap[aX]?=some (.cells #[u109000] 28 (0,0)))∧ak (w'.heap[bg]?=some (.cells #[(.slice gh cx.length eW)] 28 (0,0)))∧ak (w'.heap[ej]?=some (.cells #[.int .i64 gV] 2 (0,0)))∧ak (Below w.heap.size w w'))
      case atStart=>exact ⟨(qV),(u109000),H',⟨Nat.le_refl _⟩,⟨by (try simp only [cH]);(try simp only [eC]);(with_reducible repeat (first|apply Kd.bO|apply Kd.bR|apply Kd.alp));exact fV.out⟩,⟨by (try simp only [cH]);(try simp only [eC]);(with_reducible repeat (first|apply Kd.bO|apply Kd.bR|apply Kd.alp));exact eO.out⟩,⟨by (try simp only [cH]);(try simp only [eC]);(with_reducible repeat (first|apply Kd.bO|apply Kd.bR|apply Kd.alp));exact cR.out⟩,⟨by (try simp only [cH]);(try simp only [eC]);(with_reducible repeat (first|apply Kd.bO|apply Kd.bR|apply Kd.alp));exact fe.out⟩,⟨by (try simp only [cH]);(try simp only [eC]);exact bk⟩,⟨by (try simp only [cH]);(try simp only [eC]);exact bk⟩,⟨by (try simp only [cH]);(try simp only [eC]);exact bk⟩,⟨by (try simp only [cH]);(try simp only [eC]);exact bk⟩,⟨bl⟩⟩
      case round =>
       clear H'
       (try clear c25);(try clear vR);(try clear c26);(try clear xx);(try clear Jd);(try clear c27);(try clear amp);(try clear Ck);(try clear c38);(try clear xy);(try clear c39);(try clear Fm);(try clear c40);(try clear vT);(try clear c41);(try clear AU);(try clear c42);(try clear xz);(try clear zX);(try clear zY);(try clear sk);(try clear xP);(try clear FN);(try clear Kn);(try clear Ko);(try clear Kp);(try clear sw);(try clear xV);(try clear FR);(try clear KB);(try clear KC);(try clear KD);(try clear je);(try clear Sd);(try clear iH);(try clear zX);(try clear iI);(try clear zY)
       obtain ⟨kK,u109000,HA,dn,fV,eO,cR,fe,ah,cv,dx,fK,HB⟩:=hrel
       cases gk with
       | zero=>exact absurd HA.out (by simp [alu.l2])
       | succ k3 =>
        have H:=HA.out
        clear HA
        simp only [alu.l2] at H
        replace H:=Option.bind_eq_some_iff.mp H
        obtain ⟨t116,My,H⟩:=H
        replace H:((oc.f k3 t116 cx gV kK).bind fun t119=>(if t119=true then ((cG.f k3 af aa kK jP).bind fun t120=>(alu.l2 k3 a2 jP cx af aa t120 cx gV)) else (alu.l0 k3 a2 cx af aa kK (wrap64 (gV - 1)))))=some r:=H
        have Mx:=k0 My
        clear My
        replace H:=Option.bind_eq_some_iff.mp H
        obtain ⟨t119,MA,H⟩:=H
        replace H:(if t119=true then ((cG.f k3 af aa kK jP).bind fun t120=>(alu.l2 k3 a2 jP cx af aa t120 cx gV)) else (alu.l0 k3 a2 cx af aa kK (wrap64 (gV - 1))))=some r:=H
        have Mz:=k0 MA
        clear MA
        by_cases c50:t119=true
        case neg =>
         replace c50:=Bool.eq_false_iff.mpr c50
         subst c50
         have H1:(alu.l0 k3 a2 cx af aa kK (wrap64 (gV - 1)))=some r:=by rw [if_neg (show ¬ (false=true) by decide)] at H;exact H
         clear H
         have H:=H1
         clear H1
         have H':=k0 H
         clear H
         have ai':=gJ.out
         have ajI:=iL.out
         have ai_:=alM.out
         have ajJ:=iX.out
         have aja:=vJ.out
         have ajK:=xk.out
         have aa3:wr.cell? ⟨ai,0,none⟩=some (.int .i64 af):=(av ah.out 0).trans rfl
         have aa4:wr.cell? ⟨ai,1,none⟩=some (.slice au aa.length aq):=(av ah.out 1).trans rfl
         have abu:=ale ah.out 0
         have abv:=ale ah.out 1
         go_wp2_with (first|((with_reducible refine fo (f:=115) rfl ?_);refine fq (some 45) rfl rfl Try.func115 (by kernel_rfl) rfl #[.agg #[.int .i64 af,.slice au aa.length aq]] rfl gm ?_;(with_reducible refine (iu.calls k3 af _ _ aa t116 _ ?bt ?bu Mx.out).mono ?_);(case bt=>exact aC (Kd.bI alx.out HB.out));(case bu=>exact di.out);rintro e w71 ⟨v117,rfl,aY,hb⟩;refine ⟨_,rfl,?_⟩;have aK:=k0 (Kd.gK (aR fV.out) (Kd.dV aY) hb);have alf:=k0 (Kd.gK (aR eO.out) (Kd.dV aY) hb);have alj:=k0 (Kd.gK (aR cR.out) (Kd.dV aY) hb);have bw:=k0 (Kd.gK (aR fe.out) (Kd.dV aY) hb);have bQ:=k0 (Kd.d_ (Kd.yM (Kd.alF (Kd.alF (Kd.alF (Kd.alF aY (Kd.eZ (aR fV.out))) (Kd.eZ (aR eO.out))) (Kd.eZ (aR cR.out))) (Kd.eZ (aR fe.out))) (g:=ej) (o:=.cells #[.int .i64 gV] 2 (0,0)) bk) (aU bl));have bZ:=k0 (alg (g:=ai) (o:=sO af au aa aq 31) bk hb);have cB:=k0 (alg (g:=aX) (o:=.cells #[u109000] 28 (0,0)) bk hb);have cM:=k0 (alg (g:=bg) (o:=.cells #[.slice gh cx.length eW] 28 (0,0)) bk hb);have dJ:=k0 (alg (g:=ej) (o:=.cells #[.int .i64 gV] 2 (0,0)) bk hb);have eX:=k0 (aG bl hb);clear fV;clear eO;clear cR;clear fe;clear ah;clear cv;clear dx;clear fK;clear HB;have fV:=aK;have eO:=alf;have cR:=alj;have fe:=bw;have oh:=bQ;have ah:=bZ;have cv:=cB;have dx:=cM;have fK:=dJ;have HB:=eX;clear aK alf alj bw bQ bZ cB cM dJ eX;(try clear hb);(try clear aY);obtain ⟨Uk,Yq,Zj⟩:=Kd.fh oh.out;subst Zj;obtain ⟨am7,AZ,Zk⟩:=Kd.fh cR.out;subst Zk)|((with_reducible refine fo (f:=98) rfl ?_);refine fq (some 47) rfl rfl Try.func98 (by kernel_rfl) rfl #[.slice Uk t116.length Yq,.func (.func 185) #[] #[.pointer (some ⟨bg,0,none⟩),.pointer (some ⟨ej,0,none⟩),.pointer (some ⟨aX,0,none⟩)]] rfl gm ?_;(with_reducible refine (oc.calls k3 _ _ t116 gh eW cx gV am7 AZ kK false _ ?bt ?bu ?dZ ?ez ?rO ?rP ?Eb ?Ec ?Ed Mz.out).mono ?_);(case bt=>exact aC ((Kd.bn oh.out).2.2));(case bu=>exact (Kd.bn oh.out).2.1);(case dZ=>exact aC ((Kd.bn fe.out).2.2));(case ez=>exact (Kd.bn fe.out).2.1);(case rO=>exact aC ((Kd.bn cR.out).2.2));(case rP=>exact (Kd.bn cR.out).2.1);(case Eb=>exact by exact bk);(case Ec=>exact by exact bk);(case Ed=>exact by exact bk);rintro e w74 ⟨rfl,hb⟩;refine ⟨_,rfl,?_⟩;have aK:=k0 (Kd.ct (aR fV.out) hb);have alf:=k0 (Kd.ct (aR eO.out) hb);have alj:=k0 (Kd.ct (aR cR.out) hb);have bw:=k0 (Kd.ct (aR fe.out) hb);have bQ:=k0 (Kd.ct (aR oh.out) hb);have bZ:=k0 (alg (g:=ai) (o:=sO af au aa aq 31) bk hb);have cB:=k0 (alg (g:=aX) (o:=.cells #[.slice am7 kK.length AZ] 28 (0,0)) bk hb);have cM:=k0 (alg (g:=bg) (o:=.cells #[.slice gh cx.length eW] 28 (0,0)) bk hb);have dJ:=k0 (alg (g:=ej) (o:=.cells #[.int .i64 gV] 2 (0,0)) bk hb);have eX:=k0 (aG bl hb);clear fV;clear eO;clear cR;clear fe;clear oh;clear ah;clear cv;clear dx;clear fK;clear HB;have fV:=aK;have eO:=alf;have cR:=alj;have fe:=bw;have oh:=bQ;have ah:=bZ;have cv:=cB;have dx:=cM;have fK:=dJ;have HB:=eX;clear aK alf alj bw bQ bZ cB cM dJ eX;(try clear hb);have ajc:=rZ.out;have ajM:=uI.out;have ajd:=Ar.out;have ajN:=yK.out;have aa5:w74.cell? ⟨ej,0,none⟩=some (.int .i64 gV):=(av fK.out 0).trans rfl;have abw:=ale fK.out 0)|((with_reducible refine cy (N:=9) rfl ?_);refine ec ?hg (N:=9) ?hd (cs:=#[.int .i64 0]) (t:=2) ?hr ?_;(case hd=>rfl);(case hg=>rfl);(case hr=>first|(go_simp;done)|(go_simp;rfl));intro oy hg wn_ aJ hb;have aK:=k0 (Kd.ct (Kd.E4 (aR eO.out) oy (Nat.le_of_eq hg.symm)) hb);have alf:=k0 (Kd.ct (Kd.E4 (aR cR.out) oy (Nat.le_of_eq hg.symm)) hb);have alj:=k0 (alg (g:=ai) (o:=sO af au aa aq 31) bk hb);have bw:=k0 (alg (g:=aX) (o:=.cells #[.slice am7 kK.length AZ] 28 (0,0)) bk hb);have bQ:=k0 (alg (g:=bg) (o:=.cells #[.slice gh cx.length eW] 28 (0,0)) bk hb);have bZ:=k0 (aJ);have cB:=k0 ((by rw [hg];exact (aU bl):w.heap.size≤oy));have cM:=k0 ((by rw [hg];exact Nat.ne_of_lt (alq (g:=ai) (o:=sO af au aa aq 31) bk):ai ≠ oy));have dJ:=k0 ((by rw [hg];exact Nat.ne_of_gt (alq (g:=ai) (o:=sO af au aa aq 31) bk):oy ≠ ai));have eX:=k0 ((by rw [hg];exact Nat.ne_of_lt (alq (g:=aX) (o:=.cells #[.slice am7 kK.length AZ] 28 (0,0)) bk):aX ≠ oy));have ke:=k0 ((by rw [hg];exact Nat.ne_of_gt (alq (g:=aX) (o:=.cells #[.slice am7 kK.length AZ] 28 (0,0)) bk):oy ≠ aX));have oH:=k0 ((by rw [hg];exact Nat.ne_of_lt (alq (g:=bg) (o:=.cells #[.slice gh cx.length eW] 28 (0,0)) bk):bg ≠ oy));have uo:=k0 ((by rw [hg];exact Nat.ne_of_gt (alq (g:=bg) (o:=.cells #[.slice gh cx.length eW] 28 (0,0)) bk):oy ≠ bg));have uq:=k0 (aG bl hb);clear eO;clear cR;clear ah;clear cv;clear dx;clear fK;clear HB;have eO:=aK;have cR:=alf;have ah:=alj;have cv:=bw;have dx:=bQ;have fK:=bZ;have Na:=cB;have ID:=cM;have VR:=dJ;have IF:=eX;have VS:=ke;have IG:=oH;have VT:=uo;have HB:=uq;clear aK alf alj bw bQ bZ cB cM dJ eX ke oH uo uq;clear hb aJ hg;have ahX:wn_.cell? ⟨oy,0,none⟩=some (.int .i64 0):=(av fK.out 0).trans rfl;have ait:=ale fK.out 0))
         (try simp only [← cH,← eC])
         go_roundg k3
         case measure=>have:=aM.out;have:=bp.out;have:=dn.out;omega
         case rel=>exact ⟨(cx),(kK),(wrap64 (gV - 1)),(.slice am7 kK.length AZ),oy,rs,⟨Na.out⟩,ID,VR,IF,VS,IG,VT,H',⟨by have:=aM.out;have:=bp.out;have:=dn.out;omega⟩,⟨by (try simp only [cH]);(try simp only [eC]);(with_reducible repeat (first|apply Kd.bO|apply Kd.bR|apply Kd.alp));exact Kd.bx (Kd.kS (p:=⟨oy,0,none⟩) (Kd.kS (p:=⟨oy,0,none⟩) (Kd.bx eO.out (fun k_ hk=>(⟨hk,hk.2⟩:_∧k_ ≠ oy))) (fun _ hk=>hk.2) (.int .i64 gV)) (fun _ hk=>hk.2) (.int .i64 (wrap64 (gV - 1)))) (fun _ hk=>⟨hk.1.1.1.2.1,hk.2⟩)⟩,⟨by (try simp only [cH]);(try simp only [eC]);(with_reducible repeat (first|apply Kd.bO|apply Kd.bR|apply Kd.alp));exact Kd.bx (Kd.kS (p:=⟨oy,0,none⟩) (Kd.kS (p:=⟨oy,0,none⟩) (Kd.bx cR.out (fun k_ hk=>(⟨hk,hk.2⟩:_∧k_ ≠ oy))) (fun _ hk=>hk.2) (.int .i64 gV)) (fun _ hk=>hk.2) (.int .i64 (wrap64 (gV - 1)))) (fun _ hk=>⟨hk.1.1.1.2.1,hk.2⟩)⟩,⟨by (try simp only [cH]);(try simp only [eC]);(with_reducible repeat (first|refine cm ?_ _|refine bJ ?_|refine alo ?_ _));refine gD ?_ ID.out _;refine gD ?_ ID.out _;exact bk⟩,⟨by (try simp only [cH]);(try simp only [eC]);(with_reducible repeat (first|refine cm ?_ _|refine bJ ?_|refine alo ?_ _));refine gD ?_ IF.out _;refine gD ?_ IF.out _;exact bk⟩,⟨by (try simp only [cH]);(try simp only [eC]);(with_reducible repeat (first|refine cm ?_ _|refine bJ ?_|refine alo ?_ _));refine gD ?_ IG.out _;refine gD ?_ IG.out _;exact bk⟩,⟨by (try simp only [cH]);(try simp only [eC]);(with_reducible repeat (first|refine cm ?_ _|refine bJ ?_|refine alo ?_ _));refine pE (cs:=#[.int .i64 gV]) ?_ 0 _ rfl;refine pE (cs:=#[.int .i64 0]) ?_ 0 _ rfl;exact bk⟩,⟨by repeat (first|(with_reducible first|exact HB.out|apply bL|apply bX|apply bH|refine dI ?_ eL.out|refine dI ?_ ki.out|refine dI ?_ kj.out|refine dI ?_ Na.out)|exact HB.out)⟩⟩
        subst c50
        have H1:((cG.f k3 af aa kK jP).bind fun t120=>(alu.l2 k3 a2 jP cx af aa t120 cx gV))=some r:=by rw [if_pos rfl] at H;exact H
        clear H
        have H:=H1
        clear H1
        replace H:=Option.bind_eq_some_iff.mp H
        obtain ⟨t120,BL,H⟩:=H
        replace H:(alu.l2 k3 a2 jP cx af aa t120 cx gV)=some r:=H
        have Hi:=k0 BL
        clear BL
        have H':=k0 H
        clear H
        have ai4:=gJ.out
        have ajC:=iL.out
        have ai5:=alM.out
        have ajD:=iX.out
        have ai6:=vJ.out
        have ajE:=xk.out
        have aaX:wr.cell? ⟨ai,0,none⟩=some (.int .i64 af):=(av ah.out 0).trans rfl
        have aaY:wr.cell? ⟨ai,1,none⟩=some (.slice au aa.length aq):=(av ah.out 1).trans rfl
        have abn:=ale ah.out 0
        have abo:=ale ah.out 1
        go_wp2_with (first|((with_reducible refine fo (f:=115) rfl ?_);refine fq (some 45) rfl rfl Try.func115 (by kernel_rfl) rfl #[.agg #[.int .i64 af,.slice au aa.length aq]] rfl gm ?_;(with_reducible refine (iu.calls k3 af _ _ aa t116 _ ?bt ?bu Mx.out).mono ?_);(case bt=>exact aC (Kd.bI alx.out HB.out));(case bu=>exact di.out);rintro e w56 ⟨v117,rfl,aY,hb⟩;refine ⟨_,rfl,?_⟩;have aK:=k0 (Kd.gK (aR fV.out) (Kd.dV aY) hb);have alf:=k0 (Kd.gK (aR eO.out) (Kd.dV aY) hb);have alj:=k0 (Kd.gK (aR cR.out) (Kd.dV aY) hb);have bw:=k0 (Kd.gK (aR fe.out) (Kd.dV aY) hb);have bQ:=k0 (Kd.d_ (Kd.yM (Kd.alF (Kd.alF (Kd.alF (Kd.alF aY (Kd.eZ (aR fV.out))) (Kd.eZ (aR eO.out))) (Kd.eZ (aR cR.out))) (Kd.eZ (aR fe.out))) (g:=ej) (o:=.cells #[.int .i64 gV] 2 (0,0)) bk) (aU bl));have bZ:=k0 (alg (g:=ai) (o:=sO af au aa aq 31) bk hb);have cB:=k0 (alg (g:=aX) (o:=.cells #[u109000] 28 (0,0)) bk hb);have cM:=k0 (alg (g:=bg) (o:=.cells #[.slice gh cx.length eW] 28 (0,0)) bk hb);have dJ:=k0 (alg (g:=ej) (o:=.cells #[.int .i64 gV] 2 (0,0)) bk hb);have eX:=k0 (aG bl hb);clear fV;clear eO;clear cR;clear fe;clear ah;clear cv;clear dx;clear fK;clear HB;have fV:=aK;have eO:=alf;have cR:=alj;have fe:=bw;have oh:=bQ;have ah:=bZ;have cv:=cB;have dx:=cM;have fK:=dJ;have HB:=eX;clear aK alf alj bw bQ bZ cB cM dJ eX;(try clear hb);(try clear aY);obtain ⟨Uh,Yn,Zf⟩:=Kd.fh oh.out;subst Zf;obtain ⟨yA,yZ,Zg⟩:=Kd.fh cR.out;subst Zg)|((with_reducible refine fo (f:=98) rfl ?_);refine fq (some 47) rfl rfl Try.func98 (by kernel_rfl) rfl #[.slice Uh t116.length Yn,.func (.func 185) #[] #[.pointer (some ⟨bg,0,none⟩),.pointer (some ⟨ej,0,none⟩),.pointer (some ⟨aX,0,none⟩)]] rfl gm ?_;(with_reducible refine (oc.calls k3 _ _ t116 gh eW cx gV yA yZ kK true _ ?bt ?bu ?dZ ?ez ?rO ?rP ?Eb ?Ec ?Ed Mz.out).mono ?_);(case bt=>exact aC ((Kd.bn oh.out).2.2));(case bu=>exact (Kd.bn oh.out).2.1);(case dZ=>exact aC ((Kd.bn fe.out).2.2));(case ez=>exact (Kd.bn fe.out).2.1);(case rO=>exact aC ((Kd.bn cR.out).2.2));(case rP=>exact (Kd.bn cR.out).2.1);(case Eb=>exact by exact bk);(case Ec=>exact by exact bk);(case Ed=>exact by exact bk);rintro e Bz ⟨rfl,hb⟩;refine ⟨_,rfl,?_⟩;have aK:=k0 (Kd.ct (aR fV.out) hb);have alf:=k0 (Kd.ct (aR eO.out) hb);have alj:=k0 (Kd.ct (aR cR.out) hb);have bw:=k0 (Kd.ct (aR fe.out) hb);have bQ:=k0 (Kd.ct (aR oh.out) hb);have bZ:=k0 (alg (g:=ai) (o:=sO af au aa aq 31) bk hb);have cB:=k0 (alg (g:=aX) (o:=.cells #[.slice yA kK.length yZ] 28 (0,0)) bk hb);have cM:=k0 (alg (g:=bg) (o:=.cells #[.slice gh cx.length eW] 28 (0,0)) bk hb);have dJ:=k0 (alg (g:=ej) (o:=.cells #[.int .i64 gV] 2 (0,0)) bk hb);have eX:=k0 (aG bl hb);clear fV;clear eO;clear cR;clear fe;clear oh;clear ah;clear cv;clear dx;clear fK;clear HB;have fV:=aK;have eO:=alf;have cR:=alj;have fe:=bw;have oh:=bQ;have ah:=bZ;have cv:=cB;have dx:=cM;have fK:=dJ;have HB:=eX;clear aK alf alj bw bQ bZ cB cM dJ eX;(try clear hb);have aaZ:Bz.cell? ⟨ai,0,none⟩=some (.int .i64 af):=(av ah.out 0).trans rfl;have aa0:Bz.cell? ⟨ai,1,none⟩=some (.slice au aa.length aq):=(av ah.out 1).trans rfl;have abp:=ale ah.out 0;have abq:=ale ah.out 1;have ai8:=ko.out;have ajG:=jV.out;have ai9:=uI.out;have ajH:=rZ.out;have an_:Bz.cell? ⟨aX,0,none⟩=some (.slice yA kK.length yZ):=(av cv.out 0).trans rfl;have abr:=ale cv.out 0)|((with_reducible refine fo (f:=186) rfl ?_);refine fq (some 51) rfl rfl Try.func186 (by kernel_rfl) rfl #[.agg #[.int .i64 af,.slice au aa.length aq],.slice yA kK.length yZ,.slice vz jP.length pG] rfl gm ?_;(with_reducible refine (cG.calls k3 af _ _ aa _ _ kK _ _ jP t120 _ ?bt ?bu ?dZ ?ez ?rO ?rP Hi.out).mono ?_);(case bt=>exact aC (Kd.bI alx.out HB.out));(case bu=>exact di.out);(case dZ=>exact aC ((Kd.bn cR.out).2.2));(case ez=>exact (Kd.bn cR.out).2.1);(case rO=>exact aC ((Kd.bn fV.out).2.2));(case rP=>exact (Kd.bn fV.out).2.1);rintro e jO ⟨aky,rfl,aY,hb⟩;refine ⟨_,rfl,?_⟩;have aK:=k0 (Kd.gK (aR fV.out) (Kd.dV aY) hb);have alf:=k0 (Kd.gK (aR eO.out) (Kd.dV aY) hb);have alj:=k0 (Kd.gK (aR cR.out) (Kd.dV aY) hb);have bw:=k0 (Kd.gK (aR fe.out) (Kd.dV aY) hb);have bQ:=k0 (Kd.gK (aR oh.out) (Kd.dV aY) hb);have bZ:=k0 (Kd.d_ (Kd.yM (Kd.alF (Kd.alF (Kd.alF (Kd.alF (Kd.alF aY (Kd.eZ (aR fV.out))) (Kd.eZ (aR eO.out))) (Kd.eZ (aR cR.out))) (Kd.eZ (aR fe.out))) (Kd.eZ (aR oh.out))) (g:=ej) (o:=.cells #[.int .i64 gV] 2 (0,0)) bk) (aU bl));have cB:=k0 (alg (g:=ai) (o:=sO af au aa aq 31) bk hb);have cM:=k0 (alg (g:=aX) (o:=.cells #[.slice yA kK.length yZ] 28 (0,0)) bk hb);have dJ:=k0 (alg (g:=bg) (o:=.cells #[.slice gh cx.length eW] 28 (0,0)) bk hb);have eX:=k0 (alg (g:=ej) (o:=.cells #[.int .i64 gV] 2 (0,0)) bk hb);have ke:=k0 (aG bl hb);clear fV;clear eO;clear cR;clear fe;clear oh;clear ah;clear cv;clear dx;clear fK;clear HB;have fV:=aK;have eO:=alf;have cR:=alj;have fe:=bw;have oh:=bQ;have Nz:=bZ;have ah:=cB;have cv:=cM;have dx:=dJ;have fK:=eX;have HB:=ke;clear aK alf alj bw bQ bZ cB cM dJ eX ke;(try clear hb);(try clear aY);obtain ⟨BM,Cs,Zh⟩:=Kd.fh Nz.out;subst Zh;have aa2:jO.cell? ⟨aX,0,none⟩=some (.slice yA kK.length yZ):=(av cv.out 0).trans rfl;have abt:=ale cv.out 0))
        go_roundg k3
        case measure=>have:=aM.out;have:=bp.out;have:=dn.out;omega
        case rel=>exact ⟨(t120),(.slice BM t120.length Cs),H',⟨by have:=aM.out;have:=bp.out;have:=dn.out;omega⟩,⟨by (try simp only [cH]);(try simp only [eC]);(with_reducible repeat (first|apply Kd.bO|apply Kd.bR|apply Kd.alp));exact Kd.bx (Kd.kS (p:=⟨aX,0,none⟩) (Kd.mM fV.out cv.out (by decide)) (fun _ hk=>hk.2) (.slice BM t120.length Cs)) (fun _ hk=>⟨hk.1.1.1.1,⟨hk.1.2,⟨hk.1.1.1.2.2.1,hk.1.1.1.2.2.2⟩⟩⟩)⟩,⟨by (try simp only [cH]);(try simp only [eC]);(with_reducible repeat (first|apply Kd.bO|apply Kd.bR|apply Kd.alp));exact Kd.bx (Kd.kS (p:=⟨aX,0,none⟩) (Kd.mM eO.out cv.out (by decide)) (fun _ hk=>hk.2) (.slice BM t120.length Cs)) (fun _ hk=>⟨hk.1.1.1.1,⟨hk.1.2,hk.1.1.1.2.2⟩⟩)⟩,⟨by (try simp only [cH]);(try simp only [eC]);(with_reducible repeat (first|apply Kd.bO|apply Kd.bR|apply Kd.alp));exact Kd.bx (Kd.kS (p:=⟨aX,0,none⟩) (Kd.mM Nz.out cv.out (by decide)) (fun _ hk=>hk.2) (.slice BM t120.length Cs)) (fun _ hk=>⟨hk.1.1.1.1.1.1.2,⟨hk.1.1.1.1.1.2,⟨hk.1.1.1.2,hk.1.2⟩⟩⟩)⟩,⟨by (try simp only [cH]);(try simp only [eC]);(with_reducible repeat (first|apply Kd.bO|apply Kd.bR|apply Kd.alp));exact Kd.bx (Kd.kS (p:=⟨aX,0,none⟩) (Kd.mM fe.out cv.out (by decide)) (fun _ hk=>hk.2) (.slice BM t120.length Cs)) (fun _ hk=>⟨hk.1.1.1.1,⟨hk.1.2,hk.1.1.1.2.2⟩⟩)⟩,⟨by (try simp only [cH]);(try simp only [eC]);(with_reducible repeat (first|refine cm ?_ _|refine bJ ?_|refine alo ?_ _));refine gD ?_ gJ.out _;exact bk⟩,⟨by (try simp only [cH]);(try simp only [eC]);(with_reducible repeat (first|refine cm ?_ _|refine bJ ?_|refine alo ?_ _));refine pE (cs:=#[.slice yA kK.length yZ]) ?_ 0 _ rfl;exact bk⟩,⟨by (try simp only [cH]);(try simp only [eC]);(with_reducible repeat (first|refine cm ?_ _|refine bJ ?_|refine alo ?_ _));refine gD ?_ jV.out _;exact bk⟩,⟨by (try simp only [cH]);(try simp only [eC]);(with_reducible repeat (first|refine cm ?_ _|refine bJ ?_|refine alo ?_ _));refine gD ?_ rZ.out _;exact bk⟩,⟨bl⟩⟩
     rw [if_pos c38] at H
     have xy:=decide_eq_true c38
     (try simp only [cH,eC] at xy)
     clear c38
     replace H:=iS H;obtain ⟨c39,H⟩:=H
     have Fm:=decide_eq_true c39
     clear c39
     replace H:=iS H;obtain ⟨c40,H⟩:=H
     have vT:=decide_eq_true c40
     (try simp only [cH,eC] at vT)
     clear c40
     by_cases c41:(rd cx j5) < gV
     case neg =>
      rw [if_neg c41] at H
      have AU:decide ((rd cx j5) < gV)=false:=decide_eq_false c41
      clear c41
      have H':=k0 H
      clear H
      try go_wp2
      replace fV:=k0 (Kd.alp fV.out);replace eO:=k0 (Kd.alp eO.out);replace cR:=k0 (Kd.alp cR.out);replace fe:=k0 (Kd.alp fe.out);replace ah:=k0 (bJ ah.out);replace cv:=k0 (bJ cv.out);replace dx:=k0 (bJ dx.out);replace fK:=k0 (bJ fK.out);replace HB:=k0 (bH HB.out)
      have iH:0≤(j5:Int):=oD
      have iI:j5 < (cx.length:Int):=oD
      obtain ⟨lM,e114,je⟩:=Kd.bS (Kd.bn fe.out).2.2 j5 iH iI
      cases e114
      replace iH:=eq_true iH
      replace iI:=eq_true iI
      refine nT (n:=6) (S:=fun w'=>w'.cell? ⟨bg,0,none⟩=some (.slice (some lM) cx.length eW)∧w'.cell? ⟨ej,0,none⟩=some (.int .i64 gV)∧w'.cell? (lM.add (j5).toNat)=some (.int .i64 (rd cx j5))) (ds:=[]) (ba 6 0) (by kernel_rfl) rfl rfl ⟨(av dx.out 0).trans rfl,(av fK.out 0).trans rfl,je⟩ (fun hHeld=>?_)
      generalize wr.drew=w47 at fV eO cR fe ah cv dx fK HB je hHeld ⊢
      refine nQ (i:=1) (N:=some 35) (v:=?_) (a':=?_) (ba 6 2) rfl rfl (by kernel_rfl) (fun _ _ _ h=>h) (Or.inl ⟨by rfl,?_⟩) ?_ ?_
      rotate_left;· intro w';go_simp;with_reducible rfl
      rotate_left;· simp only [Act.put,zI,zZ,zS,cQ,dr];rfl
      refine qb (i:=0) (N:=some 34) (v:=?_) (a':=?_) (ba 6 3) rfl rfl (by kernel_rfl) (fun _ _ _ h=>h) (Or.inl ⟨by rfl,?_⟩) hHeld ?_ ?_
      rotate_left;· rintro w' ⟨s0,s1,s2⟩;go_simp;with_reducible rfl
      rotate_left;· simp only [Act.put,zI,zZ,zS,cQ,dr];rfl
      refine nQ (i:=2) (N:=some 36) (v:=?_) (a':=?_) (ba 6 7) rfl rfl (by kernel_rfl) (fun _ _ _ h=>h) (Or.inl ⟨by rfl,?_⟩) ?_ ?_
      rotate_left;· intro w';go_simp;with_reducible rfl
      rotate_left;· simp only [Act.put,zI,zZ,zS,cQ,dr];rfl
      refine qb (i:=3) (N:=some 37) (v:=?_) (a':=?_) (ba 6 15) rfl rfl (by kernel_rfl) (fun _ _ _ h=>h) (Or.inl ⟨by rfl,?_⟩) hHeld ?_ ?_
      rotate_left;· rintro w' ⟨s0,s1,s2⟩;go_simp;with_reducible rfl
      rotate_left;· simp only [Act.put,zI,zZ,zS,cQ,dr];rfl
      refine qb (i:=4) (N:=some 38) (v:=?_) (a':=?_) (ba 6 31) rfl rfl (by kernel_rfl) (fun _ _ _ h=>h) (Or.inl ⟨by rfl,?_⟩) hHeld ?_ ?_
      rotate_left;· rintro w' ⟨s0,s1,s2⟩;go_simp;with_reducible rfl
      rotate_left;· simp only [Act.put,zI,zZ,zS,cQ,dr];rfl
      refine nQ (i:=5) (N:=some 39) (v:=?_) (a':=?_) (ba 6 63) rfl rfl (by kernel_rfl) (fun _ _ _ h=>h) (Or.inl ⟨by rfl,?_⟩) ?_ ?_
      rotate_left;· intro w';go_simp;with_reducible rfl
      rotate_left;· simp only [Act.put,zI,zZ,zS,cQ,dr];rfl
      refine nH (by kernel_rfl) ?_
      try go_wp2
      (try simp only [← eC])
      go_roundg k2
      case measure=>have:=aM.out;have:=bp.out;omega
      case rel=>exact ⟨(jP),(wrap64 (j5+1)),(gV),rs,H',⟨by have:=aM.out;have:=bp.out;omega⟩,⟨by (try simp only [cH]);(try simp only [eC]);(with_reducible repeat (first|apply Kd.bO|apply Kd.bR|apply Kd.alp));exact fV.out⟩,⟨by (try simp only [cH]);(try simp only [eC]);(with_reducible repeat (first|apply Kd.bO|apply Kd.bR|apply Kd.alp));exact eO.out⟩,⟨by (try simp only [cH]);(try simp only [eC]);(with_reducible repeat (first|apply Kd.bO|apply Kd.bR|apply Kd.alp));exact cR.out⟩,⟨by (try simp only [cH]);(try simp only [eC]);(with_reducible repeat (first|apply Kd.bO|apply Kd.bR|apply Kd.alp));exact fe.out⟩,⟨by (try simp only [cH]);(try simp only [eC]);exact bk⟩,⟨by (try simp only [cH]);(try simp only [eC]);exact bk⟩,⟨by (try simp only [cH]);(try simp only [eC]);exact bk⟩,⟨by (try simp only [cH]);(try simp only [eC]);exact bk⟩,⟨bl⟩⟩
     rw [if_pos c41] at H
     have AU:=decide_eq_true c41
     clear c41
     replace H:=iS H;obtain ⟨c42,H⟩:=H
     have xz:=decide_eq_true c42
     (try simp only [cH,eC] at xz)
     clear c42
     obtain ⟨dU,gq⟩:∃ y_:List Int,y_=(jP.set (j5:Int).toNat 1):=⟨_,rfl⟩
     replace H:(alu.l1 k2 a2 dU cx (qY.length:Int) (wrap64 (j5+1)) af aa qV cx gV)=some r:=by first|(rw [gq];with_reducible exact H)|(have ax:=(Option.bind_some _ _).symm.trans H;rw [gq];with_reducible exact ax)|(have ax:=(Option.bind_some _ _).symm.trans H;with_reducible exact ax)|with_reducible exact H|(rw [gq];exact H)|exact H
     have mK:=k0 gq
     clear gq
     have H':=k0 H
     clear H
     try go_wp2
     replace fV:=k0 (Kd.alp fV.out);replace eO:=k0 (Kd.alp eO.out);replace cR:=k0 (Kd.alp cR.out);replace fe:=k0 (Kd.alp fe.out);replace ah:=k0 (bJ ah.out);replace cv:=k0 (bJ cv.out);replace dx:=k0 (bJ dx.out);replace fK:=k0 (bJ fK.out);replace HB:=k0 (bH HB.out)
     have iH:0≤(j5:Int):=oD
     have iI:j5 < (cx.length:Int):=oD
     obtain ⟨lM,e114,je⟩:=Kd.bS (Kd.bn fe.out).2.2 j5 iH iI
     cases e114
     replace iH:=eq_true iH
     replace iI:=eq_true iI
     refine nT (n:=6) (S:=fun w'=>w'.cell? ⟨bg,0,none⟩=some (.slice (some lM) cx.length eW)∧w'.cell? ⟨ej,0,none⟩=some (.int .i64 gV)∧w'.cell? (lM.add (j5).toNat)=some (.int .i64 (rd cx j5))) (ds:=[]) (ba 6 0) (by kernel_rfl) rfl rfl ⟨(av dx.out 0).trans rfl,(av fK.out 0).trans rfl,je⟩ (fun hHeld=>?_)
     generalize wr.drew=TP at fV eO cR fe ah cv dx fK HB je hHeld ⊢
     refine nQ (i:=1) (N:=some 35) (v:=?_) (a':=?_) (ba 6 2) rfl rfl (by kernel_rfl) (fun _ _ _ h=>h) (Or.inl ⟨by rfl,?_⟩) ?_ ?_
     rotate_left;· intro w';go_simp;with_reducible rfl
     rotate_left;· simp only [Act.put,zI,zZ,zS,cQ,dr];rfl
     refine qb (i:=0) (N:=some 34) (v:=?_) (a':=?_) (ba 6 3) rfl rfl (by kernel_rfl) (fun _ _ _ h=>h) (Or.inl ⟨by rfl,?_⟩) hHeld ?_ ?_
     rotate_left;· rintro w' ⟨s0,s1,s2⟩;go_simp;with_reducible rfl
     rotate_left;· simp only [Act.put,zI,zZ,zS,cQ,dr];rfl
     refine nQ (i:=2) (N:=some 36) (v:=?_) (a':=?_) (ba 6 7) rfl rfl (by kernel_rfl) (fun _ _ _ h=>h) (Or.inl ⟨by rfl,?_⟩) ?_ ?_
     rotate_left;· intro w';go_simp;with_reducible rfl
     rotate_left;· simp only [Act.put,zI,zZ,zS,cQ,dr];rfl
     refine qb (i:=3) (N:=some 37) (v:=?_) (a':=?_) (ba 6 15) rfl rfl (by kernel_rfl) (fun _ _ _ h=>h) (Or.inl ⟨by rfl,?_⟩) hHeld ?_ ?_
     rotate_left;· rintro w' ⟨s0,s1,s2⟩;go_simp;with_reducible rfl
     rotate_left;· simp only [Act.put,zI,zZ,zS,cQ,dr];rfl
     refine qb (i:=4) (N:=some 38) (v:=?_) (a':=?_) (ba 6 31) rfl rfl (by kernel_rfl) (fun _ _ _ h=>h) (Or.inl ⟨by rfl,?_⟩) hHeld ?_ ?_
     rotate_left;· rintro w' ⟨s0,s1,s2⟩;go_simp;with_reducible rfl
     rotate_left;· simp only [Act.put,zI,zZ,zS,cQ,dr];rfl
     refine nQ (i:=5) (N:=some 39) (v:=?_) (a':=?_) (ba 6 63) rfl rfl (by kernel_rfl) (fun _ _ _ h=>h) (Or.inl ⟨by rfl,?_⟩) ?_ ?_
     rotate_left;· intro w';go_simp;with_reducible rfl
     rotate_left;· simp only [Act.put,zI,zZ,zS,cQ,dr];rfl
     refine nH (by kernel_rfl) ?_
     have zX:0≤(j5:Int):=oD
     have zY:(j5:Int) < ((jP.length:Int):Int):=oD
     obtain ⟨amC,ahm,O8,PC,Z0,ahf,Nr⟩:=Kd.kT fV.out (by omega)
     (first|cases O8|(injection O8 with aW aly c_;(first|subst aW|(injection aW with aW;subst aW));subst c_;clear aly))
     have UR:=k0 PC
     have afO:=k0 Nr
     clear PC Z0 Nr
     obtain ⟨Sd,ah4⟩:=Kd.js 0 fV.out (j5:Int) zX zY
     replace zX:=eq_true zX
     replace zY:=eq_true zY
     obtain ⟨aka,akd⟩:=Kd.js 0 fV.out (j5:Int) oD oD
     have H_:=Kd.kr fV.out (j5:Int) 1
     try go_wp2_with (first|((with_reducible refine kW (t:=2) (p:=42) rfl ?_);refine alT (t:=2) (p:=42) (v:=?ak8) (w1:=(TP.setCell ⟨amC,(j5:Int).toNat,none⟩ (.int .i64 1))) ?hg ?ho ?hn ?hr ?_;(case ho=>rfl);(case hg=>rfl);(case hn=>rfl);(case hr=>first|(go_simp;done)|(go_simp;rfl));intro By hw;have hg:TP.grownBy By (some amC):=(by rw [hw];exact H_.2);have dO:Kd.R (Kd.int .i64) 2 By w.heap.size (fun k_=>some k_ ≠ (.slice (some lM) cx.length eW:Value).ownBlock∧some k_ ≠ (u109000:Value).ownBlock∧some k_ ≠ (.slice (some lM) cx.length eW:Value).ownBlock∧k_ ≠ ej) (.slice (some ⟨amC,0,none⟩) jP.length pG) dU:=(by rw [hw,mK.out];exact H_.1);clear H_;have aK:=k0 (dO);have alf:=k0 (Kd.pS (v:=(.slice (some ⟨amC,0,none⟩) jP.length pG)) (v1:=(.slice (some ⟨amC,0,none⟩) jP.length pG)) (ok:=(fun k_=>some k_ ≠ (u109000:Value).ownBlock∧k_ ≠ ej)) (by (with_reducible repeat (first|apply Kd.bO|apply Kd.bR|apply Kd.alp));exact Kd.bx eO.out (fun _ hk=>⟨⟨hk.2.1,hk.2.2⟩,hk.1⟩)) hg (.inl rfl));have alj:=k0 (Kd.pS (v:=(.slice (some ⟨amC,0,none⟩) jP.length pG)) (v1:=(.slice (some ⟨amC,0,none⟩) jP.length pG)) (ok:=(fun k_=>some k_ ≠ (.slice (some lM) cx.length eW:Value).ownBlock∧some k_ ≠ (.slice (some lM) cx.length eW:Value).ownBlock∧k_ ≠ ej)) (by (with_reducible repeat (first|apply Kd.bO|apply Kd.bR|apply Kd.alp));exact Kd.bx cR.out (fun _ hk=>⟨⟨hk.2.1,⟨hk.2.2.1,hk.2.2.2⟩⟩,hk.1⟩)) hg (.inl rfl));have bw:=k0 (Kd.pS (v:=(.slice (some ⟨amC,0,none⟩) jP.length pG)) (v1:=(.slice (some ⟨amC,0,none⟩) jP.length pG)) (ok:=(fun k_=>some k_ ≠ (u109000:Value).ownBlock∧k_ ≠ ej)) (by (with_reducible repeat (first|apply Kd.bO|apply Kd.bR|apply Kd.alp));exact Kd.bx fe.out (fun _ hk=>⟨⟨hk.2.1,hk.2.2⟩,hk.1⟩)) hg (.inl rfl));have bQ:=k0 (jv (g:=ai) (o:=sO af au aa aq 31) bk hg (Kd.iG fV.out ah.out (by decide)));have bZ:=k0 (jv (g:=aX) (o:=.cells #[u109000] 28 (0,0)) bk hg (Kd.iG fV.out cv.out (by decide)));have cB:=k0 (jv (g:=bg) (o:=.cells #[.slice (some lM) cx.length eW] 28 (0,0)) bk hg (Kd.iG fV.out dx.out (by decide)));have cM:=k0 (jv (g:=ej) (o:=.cells #[.int .i64 gV] 2 (0,0)) bk hg (Kd.Wj fV.out (fun _ hk=>hk.2.2.2)));have dJ:=k0 ((by rw [hw];exact dI (HB.out) UR.out:Below w.heap.size w By));clear fV;clear eO;clear cR;clear fe;clear ah;clear cv;clear dx;clear fK;clear HB;have fV:=aK;have eO:=alf;have cR:=alj;have fe:=bw;have ah:=bQ;have cv:=bZ;have dx:=cB;have fK:=cM;have HB:=dJ;clear aK alf alj bw bQ bZ cB cM dJ;clear hg hw dO))
     (try simp only [← eC])
     go_roundg k2
     case measure=>have:=aM.out;have:=bp.out;omega
     case rel=>exact ⟨(dU),(wrap64 (j5+1)),(gV),rs,H',⟨by have:=aM.out;have:=bp.out;omega⟩,⟨by (try simp only [cH]);(try simp only [eC]);(with_reducible repeat (first|apply Kd.bO|apply Kd.bR|apply Kd.alp));exact fV.out⟩,⟨by (try simp only [cH]);(try simp only [eC]);(with_reducible repeat (first|apply Kd.bO|apply Kd.bR|apply Kd.alp));exact Kd.bx eO.out (fun _ hk=>⟨hk.2,⟨hk.1.1,hk.1.2⟩⟩)⟩,⟨by (try simp only [cH]);(try simp only [eC]);(with_reducible repeat (first|apply Kd.bO|apply Kd.bR|apply Kd.alp));exact Kd.bx cR.out (fun _ hk=>⟨hk.2,⟨hk.1.1,⟨hk.1.2.1,hk.1.2.2⟩⟩⟩)⟩,⟨by (try simp only [cH]);(try simp only [eC]);(with_reducible repeat (first|apply Kd.bO|apply Kd.bR|apply Kd.alp));exact Kd.bx fe.out (fun _ hk=>⟨hk.2,⟨hk.1.1,hk.1.2⟩⟩)⟩,⟨by (try simp only [cH]);(try simp only [eC]);exact bk⟩,⟨by (try simp only [cH]);(try simp only [eC]);exact bk⟩,⟨by (try simp only [cH]);(try simp only [eC]);exact bk⟩,⟨by (try simp only [cH]);(try simp only [eC]);exact bk⟩,⟨bl⟩⟩
/-! ### F27: function 27 -/
def og.f (k:Nat) (af:Int) (aa:List (List Int)) (l1:List Int) (a2:Int):Option (List Int × Int):=(pQ.f k af aa a2 (([l1]:List (List Int)))).bind fun t105=>(if t105=0 then ((alu.f k af aa l1 a2).bind fun t106=>(some (t106,0))) else (some (([]:List Int),t105)))
theorem og.mono:∀ a0 a1 a2 a3 k,aj (og.f k a0 a1 a2 a3) (og.f (k+1) a0 a1 a2 a3):=by
 intro a0 a1 a2 a3 k
 unfold og.f
 repeat' first
  | (with_reducible first|exact alu.mono _ _ _ _ _|exact pQ.mono _ _ _ _ _|exact aj.refl _|exact aj.none _|refine aj.ite ?_ ?_|refine aj.bind ?_ (fun _=>?_))
  | exact alu.mono _ _ _ _ _|exact pQ.mono _ _ _ _ _|exact aj.none _|refine aj.ite ?_ ?_|refine aj.bind ?_ (fun _=>?_)
set_option maxHeartbeats 8000000 in
set_option maxRecDepth 100000 in
theorem og.calls (k : Nat) (af : Int) (au : Option Addr) (aq : Nat) (aa : List (List Int)) (j7 : Nat → Prop) (A1 : Option Addr) (c1 : Nat) (l1 : List Int) (a2 : Int) (r1 : List Int) (r2 : Int) (w : World) (cl : Kd.C (Kd.slice 2 (Kd.int .i64)) w au aa.length aa) (cn : aa.length ≤ aq) (hs1 : Kd.V (Kd.int .i64) 2 w w.heap.size (fun k_ => j7 k_) (.slice A1 l1.length c1) l1) (h : og.f k af aa l1 a2 = some (r1, r2)) :
  Calls Try.prog 27 #[.agg #[.int .i64 af,.slice au aa.length aq],.slice A1 l1.length c1,.int .i64 a2] w fun e w'=>∃ cF:Value,e=.returned (.tuple #[cF,.int .i64 r2])∧Kd.R (Kd.int .i64) 2 w' w.heap.size (fun k_=>(w.heap.size≤k_)) cF r1∧Below w.heap.size w w':=by
 have kF:=Try.underlying31
 have alx:=k0 cl
 have di:=k0 cn
 clear cl cn
 have fU:=k0 (show Kd.V (Kd.int .i64) 2 w w.heap.size (fun k_=>(j7 k_∨w.heap.size≤k_)) (.slice A1 l1.length c1) l1 from Kd.uN hs1 (fun k_ hk=>.inl hk))
 have HB:=k0 (Below.refl w.heap.size w)
 have H:((pQ.f k af aa a2 (([l1]:List (List Int)))).bind fun t105=>(if t105=0 then ((alu.f k af aa l1 a2).bind fun t106=>(some (t106,0))) else (some (([]:List Int),t105))))=some (r1,r2):=h
 clear h
 obtain ⟨eT,eH⟩:∃ y_:List (List Int),y_=(([l1]:List (List Int))):=⟨_,rfl⟩
 replace H:((pQ.f k af aa a2 eT).bind fun t105=>(if t105=0 then ((alu.f k af aa l1 a2).bind fun t106=>(some (t106,0))) else (some (([]:List Int),t105))))=some (r1,r2):=by first|(rw [eH];with_reducible exact H)|(have ax:=(Option.bind_some _ _).symm.trans H;rw [eH];with_reducible exact ax)|(have ax:=(Option.bind_some _ _).symm.trans H;with_reducible exact ax)|with_reducible exact H|(rw [eH];exact H)|exact H
 have alG:=k0 eH
 clear eH
 replace H:=Option.bind_eq_some_iff.mp H
 obtain ⟨t105,jH,H⟩:=H
 replace H:(if t105=0 then ((alu.f k af aa l1 a2).bind fun t106=>(some (t106,0))) else (some (([]:List Int),t105)))=some (r1,r2):=H
 have A4:=k0 jH
 clear jH
 by_cases c5:t105=0
 case neg =>
  rw [if_neg c5] at H
  have jb:(t105 == 0)=false:=beq_eq_false_iff_ne.mpr c5
  have vU:(t105 != 0)=true:=bne_iff_ne.mpr c5
  simp only [Option.some.injEq,Prod.mk.injEq] at H
  obtain ⟨rfl,rfl⟩:=H
  go_enter Try.func27,Try.ntmps27
  go_wp2_with (first|((with_reducible refine cy (N:=3) rfl ?_);refine ec ?hg (N:=3) ?hd (cs:=#[.int .i64 af,.slice au aa.length aq]) (t:=31) ?hr ?_;(case hd=>rfl);(case hg=>rfl);(case hr=>first|(go_simp;done)|(go_simp;rfl));intro ai hg oN aJ hb;replace fU:=k0 (Kd.xp (Kd.Fc (aV fU.out) ai (Nat.le_of_eq hg.symm)) hb);have ah:=k0 (aJ);have cr:=k0 ((by rw [hg];exact (aU bl):w.heap.size≤ai));have eL:=cr;replace HB:=k0 (aG bl hb);clear hb aJ hg;have zk:oN.cell? ⟨ai,0,none⟩=some (.int .i64 af):=(av ah.out 0).trans rfl;have zl:oN.cell? ⟨ai,1,none⟩=some (.slice au aa.length aq):=(av ah.out 1).trans rfl;have zn:=ale ah.out 0;have zo:=ale ah.out 1)|((with_reducible refine cy (N:=12) rfl ?_);refine Kd.E3 (Kd.slice 2 (Kd.int .i64)) _ 28 ?hg (N':=12) ?hd (xs:=([l1]:List (List Int))) (inner:=[.slice A1 l1.length c1]) (ok:=(fun k_=>(j7 k_∨w.heap.size≤k_)∧k_ ≠ ai)) (cC:=(fun k_=>(j7 k_∨w.heap.size≤k_)∧k_ ≠ ai)) ?hr ?hp (fun _ hk=>hk) ((show ∀ k_,oN.heap.size≤k_→(fun k_=>(j7 k_∨w.heap.size≤k_)∧k_ ≠ ai) k_ from fun k_ hk=>⟨(.inr (Nat.le_trans (aU bl) hk)),Kd.Cy (g:=ai) (o:=sO af au aa aq 31) bk k_ hk⟩) _ (Nat.le_refl _)) (Below.refl _ _) (Nat.le_refl _) (by simp) ?_;(case hd=>rfl);(case hg=>rfl);(case hr=>first|(go_simp;done)|(go_simp;rfl));(case hp=>exact (bY.one (show Kd.FK (Kd.slice 2 (Kd.int .i64)) _ _ l1 [.slice A1 l1.length c1] from (Kd.EE (Kd.xq (Kd.uN (ok':=(fun k_=>(j7 k_∨w.heap.size≤k_)∧k_ ≠ ai)) (fU.out) (fun k_ hk=>⟨hk.1,hk.2⟩))).2.1 (Kd.Fa (Kd.uN (ok':=(fun k_=>(j7 k_∨w.heap.size≤k_)∧k_ ≠ ai)) (fU.out) (fun k_ hk=>⟨hk.1,hk.2⟩))))) (bY.none _ _)));intro dw nc sC hb ew ey;clear ew ey;(first|rw [← alG.out] at sC|(simp only [Int.reduceToNat] at sC;rw [← alG.out] at sC));replace fU:=k0 (Kd.yO (aV fU.out) (Kd.At sC) hb);have a_:=k0 (Kd.B2 sC (aU bl));replace ah:=k0 (alg (g:=ai) (o:=sO af au aa aq 31) bk hb);replace HB:=k0 (aG bl hb);clear hb sC;obtain ⟨amK,ru,xE⟩:=Kd.ans a_.out;subst xE)|((with_reducible refine fo (f:=92) rfl ?_);refine fq (some 13) rfl rfl Try.func92 (by kernel_rfl) rfl #[.agg #[.int .i64 af,.slice au aa.length aq],.int .i64 a2,.slice amK eT.length ru] rfl gm ?_;(with_reducible refine (pQ.calls k af _ _ aa a2 _ _ eT t105 _ ?bt ?bu ?dZ ?ez A4.out).mono ?_);(case bt=>exact aC (Kd.bI alx.out HB.out));(case bu=>exact di.out);(case dZ=>exact aC ((Kd.uJ a_.out).2.2));(case ez=>exact (Kd.uJ a_.out).2.1);rintro e pO ⟨rfl,hb⟩;refine ⟨_,rfl,?_⟩;replace fU:=k0 (Kd.xp (aV fU.out) hb);replace a_:=k0 (Kd.xm (aN a_.out) hb);replace ah:=k0 (alg (g:=ai) (o:=sO af au aa aq 31) bk hb);replace HB:=k0 (aG bl hb);(try clear hb)))
  go_ret2
  exact ⟨_,by first|rfl|(simp [bA,bB]<;>rfl)|(simp [*,bA,bB]<;>rfl),by first|exact Kd.xo _ _ _ _ _|exact Kd.II _ _ _ _ _|exact Kd.I2 _ _ _ _ _|exact Kd.IU _ _ _ _ _|exact Kd.I0 _ _ _ _ _,bl⟩
 rw [if_pos c5] at H
 have jb:(t105 == 0)=true:=beq_iff_eq.mpr c5
 have vU:(t105 != 0)=false:=bne_eq_false_iff_eq.mpr c5
 clear c5
 replace H:=Option.bind_eq_some_iff.mp H
 obtain ⟨t106,wZ,H⟩:=H
 replace H:(some (t106,0))=some (r1,r2):=H
 have A6:=k0 wZ
 clear wZ
 simp only [Option.some.injEq,Prod.mk.injEq] at H
 obtain ⟨rfl,rfl⟩:=H
 go_enter Try.func27,Try.ntmps27
 go_wp2_with (first|((with_reducible refine cy (N:=3) rfl ?_);refine ec ?hg (N:=3) ?hd (cs:=#[.int .i64 af,.slice au aa.length aq]) (t:=31) ?hr ?_;(case hd=>rfl);(case hg=>rfl);(case hr=>first|(go_simp;done)|(go_simp;rfl));intro ai hg w7 aJ hb;replace fU:=k0 (Kd.xp (Kd.Fc (aV fU.out) ai (Nat.le_of_eq hg.symm)) hb);have ah:=k0 (aJ);have cr:=k0 ((by rw [hg];exact (aU bl):w.heap.size≤ai));have eL:=cr;replace HB:=k0 (aG bl hb);clear hb aJ hg;have xS:w7.cell? ⟨ai,0,none⟩=some (.int .i64 af):=(av ah.out 0).trans rfl;have xT:w7.cell? ⟨ai,1,none⟩=some (.slice au aa.length aq):=(av ah.out 1).trans rfl;have xY:=ale ah.out 0;have xZ:=ale ah.out 1)|((with_reducible refine cy (N:=12) rfl ?_);refine Kd.E3 (Kd.slice 2 (Kd.int .i64)) _ 28 ?hg (N':=12) ?hd (xs:=([l1]:List (List Int))) (inner:=[.slice A1 l1.length c1]) (ok:=(fun k_=>(j7 k_∨w.heap.size≤k_)∧k_ ≠ ai)) (cC:=(fun k_=>(j7 k_∨w.heap.size≤k_)∧k_ ≠ ai)) ?hr ?hp (fun _ hk=>hk) ((show ∀ k_,w7.heap.size≤k_→(fun k_=>(j7 k_∨w.heap.size≤k_)∧k_ ≠ ai) k_ from fun k_ hk=>⟨(.inr (Nat.le_trans (aU bl) hk)),Kd.Cy (g:=ai) (o:=sO af au aa aq 31) bk k_ hk⟩) _ (Nat.le_refl _)) (Below.refl _ _) (Nat.le_refl _) (by simp) ?_;(case hd=>rfl);(case hg=>rfl);(case hr=>first|(go_simp;done)|(go_simp;rfl));(case hp=>exact (bY.one (show Kd.FK (Kd.slice 2 (Kd.int .i64)) _ _ l1 [.slice A1 l1.length c1] from (Kd.EE (Kd.xq (Kd.uN (ok':=(fun k_=>(j7 k_∨w.heap.size≤k_)∧k_ ≠ ai)) (fU.out) (fun k_ hk=>⟨hk.1,hk.2⟩))).2.1 (Kd.Fa (Kd.uN (ok':=(fun k_=>(j7 k_∨w.heap.size≤k_)∧k_ ≠ ai)) (fU.out) (fun k_ hk=>⟨hk.1,hk.2⟩))))) (bY.none _ _)));intro dw w9 sB hb ew ey;clear ew ey;(first|rw [← alG.out] at sB|(simp only [Int.reduceToNat] at sB;rw [← alG.out] at sB));replace fU:=k0 (Kd.yO (aV fU.out) (Kd.At sB) hb);have a_:=k0 (Kd.B2 sB (aU bl));replace ah:=k0 (alg (g:=ai) (o:=sO af au aa aq 31) bk hb);replace HB:=k0 (aG bl hb);clear hb sB;obtain ⟨amJ,xB,am0⟩:=Kd.ans a_.out;subst am0)|((with_reducible refine fo (f:=92) rfl ?_);refine fq (some 13) rfl rfl Try.func92 (by kernel_rfl) rfl #[.agg #[.int .i64 af,.slice au aa.length aq],.int .i64 a2,.slice amJ eT.length xB] rfl gm ?_;(with_reducible refine (pQ.calls k af _ _ aa a2 _ _ eT t105 _ ?bt ?bu ?dZ ?ez A4.out).mono ?_);(case bt=>exact aC (Kd.bI alx.out HB.out));(case bu=>exact di.out);(case dZ=>exact aC ((Kd.uJ a_.out).2.2));(case ez=>exact (Kd.uJ a_.out).2.1);rintro e gM ⟨rfl,hb⟩;refine ⟨_,rfl,?_⟩;replace fU:=k0 (Kd.xp (aV fU.out) hb);replace a_:=k0 (Kd.xm (aN a_.out) hb);replace ah:=k0 (alg (g:=ai) (o:=sO af au aa aq 31) bk hb);replace HB:=k0 (aG bl hb);(try clear hb);have QB:gM.cell? ⟨ai,0,none⟩=some (.int .i64 af):=(av ah.out 0).trans rfl;have QC:gM.cell? ⟨ai,1,none⟩=some (.slice au aa.length aq):=(av ah.out 1).trans rfl;have QW:=ale ah.out 0;have QX:=ale ah.out 1)|((with_reducible refine fo (f:=93) rfl ?_);refine fq (some 20) rfl rfl Try.func93 (by kernel_rfl) rfl #[.agg #[.int .i64 af,.slice au aa.length aq],.slice A1 l1.length c1,.int .i64 a2] rfl gm ?_;(with_reducible refine (alu.calls k af _ _ aa _ _ l1 a2 t106 _ ?bt ?bu ?dZ ?ez A6.out).mono ?_);(case bt=>exact aC (Kd.bI alx.out HB.out));(case bu=>exact di.out);(case dZ=>exact aC ((Kd.xq fU.out).2.2));(case ez=>exact (Kd.xq fU.out).2.1);rintro e z7 ⟨v107,rfl,aY,hb⟩;refine ⟨_,rfl,?_⟩;replace fU:=k0 (Kd.yO (aV fU.out) (Kd.dV aY) hb);replace a_:=k0 (Kd.E2 (aN a_.out) (Kd.dV aY) hb);have uG:=k0 (Kd.d_ (Kd.N4 (M:=fun k_=>(w.heap.size≤k_)) aY (aU bl) (fun k_ h_=>h_)) (aU bl));replace ah:=k0 (alg (g:=ai) (o:=sO af au aa aq 31) bk hb);replace HB:=k0 (aG bl hb);(try clear hb);(try clear aY)))
 go_ret2
 exact ⟨_,by first|rfl|(simp [bA,bB]<;>rfl)|(simp [*,bA,bB]<;>rfl),by (with_reducible repeat (first|apply Kd.bO|apply Kd.bR|apply Kd.alp));exact Kd.bx uG.out (fun _ hk=>hk.1),bl⟩
theorem og.Fp (k : Nat) (af : Int) (au : Option Addr) (aq : Nat) (aa : List (List Int)) (A1 : Option Addr) (c1 : Nat) (l1 : List Int) (a2 : Int) (r1 : List Int) (r2 : Int) (w : World) (cl : Kd.C (Kd.slice 2 (Kd.int .i64)) w au aa.length aa) (cn : aa.length ≤ aq) (cE : Kd.C (Kd.int .i64) w A1 l1.length l1) (dW : l1.length ≤ c1) (h : og.f k af aa l1 a2 = some (r1, r2)) :
  Calls Try.prog 27 #[.agg #[.int .i64 af,.slice au aa.length aq],.slice A1 l1.length c1,.int .i64 a2] w fun e w'=>∃ cF:Value,e=.returned (.tuple #[cF,.int .i64 r2])∧Kd.R (Kd.int .i64) 2 w' w.heap.size (fun _=>True) cF r1∧Below w.heap.size w w':=by
 refine (og.calls k af au aq aa (fun k_=>k_ < w.heap.size) A1 c1 l1 a2 r1 r2 w cl cn (Kd.Oe dW (Kd.MP (Kd.QI .i64) cE)) h).mono ?_
 rintro e w' ⟨cF,he,hR,hb⟩
 exact ⟨cF,he,Kd.bx hR (fun _ _=>trivial),hb⟩
end Go.Proofs.Ytoebojnhchocaaa.B
/- Set with little white space, by a program. -/
