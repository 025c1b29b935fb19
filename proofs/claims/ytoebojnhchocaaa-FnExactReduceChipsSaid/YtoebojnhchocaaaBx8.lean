/- The functions that one law reaches, each as a Lean function, and that Go's call comes to what it says. Condition of each: that the Lean function answers (is not none). -/
import Derived.Test.YtoebojnhchocaaaBx0
import Derived.Test.YtoebojnhchocaaaBx4
import Derived.Test.YtoebojnhchocaaaBx5
import Derived.Test.YtoebojnhchocaaaBx6
import Derived.Test.YtoebojnhchocaaaBx7
namespace Go.Proofs.Ytoebojnhchocaaa.B
open Go.RowKit Go.Proofs.bC.eg Go.Proofs.bC.iZ Go.Proofs.bC.jr
attribute [local go_sem] max2_int min2_int max_two min_two max_three min_three max_four min_four   -- for this text's walks alone
set_option linter.unusedVariables false
set_option linter.unusedSimpArgs false
/-! ### F90: function 90 -/
def bW.amr (ds o:List Int) (d:Int) (n:Nat):Bool:=(List.range n).any fun v=>rd ds (v:Int) == d && decide (rd o (v:Int) < 0)
def bW.oL (ds:List Int) (d:Int) (n:Nat):List Bool:=(List.range 8).map fun v=>decide (v < n) && decide (rd ds (v:Int) < d)
theorem bW.Yy (ds o:List Int) (d:Int) (n:Nat):bW.amr ds o d (n+1)=(bW.amr ds o d n || (rd ds (n:Int) == d && decide (rd o (n:Int) < 0))):=by
 unfold bW.amr
 rw [List.range_succ,List.any_append]
 simp
theorem bW.L1 (ds:List Int) (d:Int) (n:Nat):(bW.oL ds d n).length=8:=by simp [bW.oL]
theorem bW.aew (ds:List Int) (d:Int):bW.oL ds d 0=List.replicate 8 false:=by
 unfold bW.oL
 rw [List.map_congr_left (g:=fun _=>false) (fun v _=>by simp)]
 rfl
theorem bW.aev (ds:List Int) (d:Int) (n:Nat) (h:n < 8):(bW.oL ds d n).set n (decide (rd ds (n:Int) < d))=bW.oL ds d (n+1):=by
 apply List.ext_getElem
 ·simp [bW.oL]
 ·intro j h1 h2
  rw [List.getElem_set]
  have hj:j < 8:=by simpa [bW.oL] using h1
  by_cases e:n=j
  case neg =>
   rw [if_neg e]
   simp only [bW.oL,List.getElem_map,List.getElem_range]
   rw [show decide (j < n+1)=decide (j < n) from decide_eq_decide.2 ⟨fun _=>by omega,fun _=>by omega⟩]
  subst e
  rw [if_pos rfl]
  simp [bW.oL]
theorem bW.Ju (l:List Bool) (h:l.length=8):∃ b0 b1 b2 b3 b4 b5 b6 b7:Bool,l=[b0,b1,b2,b3,b4,b5,b6,b7]:=by
 match l,h with
 | [b0,b1,b2,b3,b4,b5,b6,b7],_=>exact ⟨b0,b1,b2,b3,b4,b5,b6,b7,rfl⟩
mutual
def bW.l0 : Nat → List (List Int) → Int → List Int → List Int → Int → Option (List Int)
 | 0,_,_,_,_,_=>none
 | k+1,x0,x2,x7,x8,x9=>if x9 > 0 then (bW.l1 k x0 x2 x7 x8 x9) else (bW.l2 k x0 x2 x7)
def bW.l1 : Nat → List (List Int) → Int → List Int → List Int → Int → Option (List Int)
 | 0,_,_,_,_,_=>none
 | k+1,x0,x2,x7,x8,x9=>if (x0.length≤8∧x8.length=x0.length∧x7.length=x0.length) then (if bW.amr x8 x7 x9 x0.length=true then ((cY.fA k x0 x7 (bW.oL x8 x9 x0.length) 1).bind fun t=>bW.l1 k x0 x2 t x8 x9) else (bW.l0 k x0 x2 x7 x8 (wrap64 (x9 - 1)))) else none
def bW.l2 : Nat → List (List Int) → Int → List Int → Option (List Int)
 | 0,_,_,_=>none
 | k+1,x0,x2,x7=>(bz.fA k x0 x7 x2).bind fun p=>if p.2=true then ((cY.fA k x0 x7 p.1 1).bind fun t=>bW.l2 k x0 x2 t) else some x7
end
def bW.f (k:Nat) (l0:List (List Int)) (l1:List Int) (a2:Int):Option (List Int):=(vA.f l1).bind fun t=>(alr.f k l0 a2).bind fun u=>bW.l0 k l0 a2 t u (l0.length:Int)
theorem bW.cj : ∀ k, (∀ y0 y1 y2 y3 y4, aj (bW.l0 k y0 y1 y2 y3 y4) (bW.l0 (k + 1) y0 y1 y2 y3 y4)) ∧ (∀ y0 y1 y2 y3 y4, aj (bW.l1 k y0 y1 y2 y3 y4) (bW.l1 (k + 1) y0 y1 y2 y3 y4)) ∧ (∀ y0 y1 y2, aj (bW.l2 k y0 y1 y2) (bW.l2 (k + 1) y0 y1 y2))
 | 0=>⟨fun _ _ _ _ _ r h=>by simp [bW.l0] at h,fun _ _ _ _ _ r h=>by simp [bW.l1] at h,fun _ _ _ r h=>by simp [bW.l2] at h⟩
 | k+1=>by
  obtain ⟨ali,ih1,ih2⟩:=bW.cj k
  refine ⟨?_,?_,?_⟩
  ·intro y0 y1 y2 y3 y4;unfold bW.l0;exact aj.ite (ih1 _ _ _ _ _) (ih2 _ _ _)
  ·intro y0 y1 y2 y3 y4;unfold bW.l1;exact aj.ite (aj.ite (aj.bind (cY.Bs _ _ _ _ _) (fun _=>ih1 _ _ _ _ _)) (ali _ _ _ _ _)) (aj.none _)
  ·intro y0 y1 y2;unfold bW.l2;exact aj.bind (bz.Bs _ _ _ _) (fun _=>aj.ite (aj.bind (cY.Bs _ _ _ _ _) (fun _=>ih2 _ _ _)) (aj.refl _))
theorem bW.mono:∀ a0 a1 a2 k,aj (bW.f k a0 a1 a2) (bW.f (k+1) a0 a1 a2):=by
 intro a0 a1 a2 k
 unfold bW.f
 exact aj.bind (aj.refl _) (fun _=>aj.bind (alr.mono _ _ _) (fun _=>(bW.cj k).1 _ _ _ _ _))
set_option maxHeartbeats 8000000 in
set_option maxRecDepth 100000 in
theorem bW.calls (k : Nat) (A0 : Option Addr) (c0 : Nat) (l0 : List (List Int)) (A1 : Option Addr) (c1 : Nat) (l1 : List Int) (a2 : Int) (r : List Int) (w : World) (cI : Kd.C (Kd.slice 2 (Kd.int .i64)) w A0 l0.length l0) (hc0 : l0.length ≤ c0) (cE : Kd.C (Kd.int .i64) w A1 l1.length l1) (dW : l1.length ≤ c1) (h : bW.f k l0 l1 a2 = some r) :
  Calls Try.prog 90 #[.slice A0 l0.length c0,.slice A1 l1.length c1,.int .i64 a2] w fun e w'=>∃ cF:Value,e=.returned (cF)∧Kd.R (Kd.int .i64) 2 w' w.heap.size (fun _=>True) cF r∧Below w.heap.size w w':=by
 have eA:=k0 cI
 have kP:=k0 hc0
 have eP:=k0 cE
 have nk:=k0 dW
 have hlen:l0.length≤9223372036854775807:=cI.2.1
 clear cI hc0 cE dW
 unfold bW.f at h
 obtain ⟨t,ht,h⟩:=Option.bind_eq_some_iff.mp h
 obtain ⟨ds,hds,h⟩:=Option.bind_eq_some_iff.mp h
 have H':=k0 h
 have AT:=k0 ht
 have AD:=k0 hds
 clear h ht hds
 go_enter Try.func90,Try.ntmps90
 go_wp2_with (first
  | (go_at_call 173;refine (vA.calls A1 c1 l1 t _ eP.out nk.out AT.out).mono ?_;rintro e w1 ⟨v1,rfl,wH,hb1⟩;have HO:=k0 wH;have HB:=k0 hb1;clear wH hb1)
  | (go_at_call 174;refine (alr.calls k A0 c0 l0 a2 ds _ (Kd.bI eA.out HB.out) kP.out AD.out).mono ?_;rintro e w2 ⟨v2,rfl,qK,hb2⟩;obtain ⟨Ad,cd,ed⟩:=Kd.fh qK;subst ed;have EU:=k0 (Kd.ct HO.out hb2);have yE:=k0 (aG HB.out hb2);have U9:=k0 (Kd.bn qK).2.2;have HDN:=k0 (Kd.bn qK).2.1;clear qK hb2 HO HB))
 go_loopg [7,9] k (fun kq v7 v9 w'=>∃ (o:List Int) (d:Int),v9=.int .i64 d∧ak (bW.l0 kq l0 a2 o ds d=some r)∧ak (kq≤k)∧ak (Kd.R (Kd.int .i64) 2 w' w.heap.size (fun _=>True) v7 o)∧ak (Below w2.heap.size w2 w'))
 case atStart=>exact ⟨t,l0.length,rfl,H',⟨Nat.le_refl _⟩,EU,⟨Below.refl _ _⟩⟩
 case round =>
  clear H' EU
  obtain ⟨o,d,rfl,HA,aM,HO,HB⟩:=hrel
  cases gk with
  | zero=>exact absurd HA.out (by simp [bW.l0])
  | succ k1 =>
   have H:=HA.out
   clear HA
   simp only [bW.l0] at H
   by_cases AQ:d > 0
   case neg =>
    rw [if_neg AQ] at H
    have Jc:decide (0 < d)=false:=decide_eq_false AQ
    have H':=k0 H
    clear H AQ
    go_wp2
    go_loopg [7] k1 (fun kq v7 w'=>∃ (o:List Int),ak (bW.l2 kq l0 a2 o=some r)∧ak (kq≤k1)∧ak (Kd.R (Kd.int .i64) 2 w' w.heap.size (fun _=>True) v7 o)∧ak (Below w2.heap.size w2 w'))
    case atStart=>exact ⟨o,H',⟨Nat.le_refl _⟩,HO,HB⟩
    case round =>
     clear H' HO HB
     obtain ⟨o,HA,bp,HO,HB⟩:=hrel
     cases gk with
     | zero=>exact absurd HA.out (by simp [bW.l2])
     | succ k2 =>
      have H:=HA.out
      clear HA
      simp only [bW.l2] at H
      obtain ⟨⟨p1,p2⟩,hp,H⟩:=Option.bind_eq_some_iff.mp H
      have AB:=k0 hp
      have EH:=k0 H
      clear hp H
      obtain ⟨Ao,co,eo⟩:=Kd.fh HO.out
      subst eo
      cases p2 with
      | false =>
       have h3:=EH.out
       simp only [Bool.false_eq_true,if_false,Option.some.injEq] at h3
       subst h3
       clear EH
       go_wp2_with (go_at_call 176;refine (bz.yT k2 A0 c0 l0 Ao co o a2 p1 false _ (Kd.bI (Kd.bI eA.out yE.out) HB.out) kP.out (Kd.bn HO.out).2.2 (Kd.bn HO.out).2.1 AB.out).mono ?_;rintro e wb ⟨⟨rfl,C7⟩,zi⟩;obtain ⟨b0,b1,b2,b3,b4,b5,b6,b7,rfl⟩:=bW.Ju _ C7;have yD:=k0 (bL (aG HB.out zi) (.cells #[.bool b0,.bool b1,.bool b2,.bool b3,.bool b4,.bool b5,.bool b6,.bool b7] 133 (0,0)));have EV:=k0 (Kd.bO (Kd.ct HO.out zi) (.cells #[.bool b0,.bool b1,.bool b2,.bool b3,.bool b4,.bool b5,.bool b6,.bool b7] 133 (0,0)));clear zi C7;simp only [List.map_cons,List.map_nil])
       go_ret
       exact ⟨_,rfl,EV.out,aG yE.out yD.out⟩
      | true =>
       have h3:=EH.out
       simp only [if_true] at h3
       obtain ⟨t',ht',h4⟩:=Option.bind_eq_some_iff.mp h3
       have H':=k0 h4
       have AF:=k0 ht'
       clear h3 h4 ht' EH
       go_wp2_with (first|(go_at_call 176;refine (bz.yT k2 A0 c0 l0 Ao co o a2 p1 true _ (Kd.bI (Kd.bI eA.out yE.out) HB.out) kP.out (Kd.bn HO.out).2.2 (Kd.bn HO.out).2.1 AB.out).mono ?_;rintro e wb ⟨⟨rfl,C7⟩,zi⟩;obtain ⟨b0,b1,b2,b3,b4,b5,b6,b7,rfl⟩:=bW.Ju _ C7;have yD:=k0 (bL (aG HB.out zi) (.cells #[.bool b0,.bool b1,.bool b2,.bool b3,.bool b4,.bool b5,.bool b6,.bool b7] 133 (0,0)));have EV:=k0 (Kd.bO (Kd.ct HO.out zi) (.cells #[.bool b0,.bool b1,.bool b2,.bool b3,.bool b4,.bool b5,.bool b6,.bool b7] 133 (0,0)));clear zi C7;simp only [List.map_cons,List.map_nil])|(go_at_call 175;refine (cY.yT k2 A0 c0 l0 Ao co o [b0,b1,b2,b3,b4,b5,b6,b7] 1 t' _ (Kd.bI (Kd.bI eA.out yE.out) yD.out) kP.out (Kd.bn EV.out).2.2 (Kd.bn EV.out).2.1 rfl AF.out).mono ?_;rintro e wf ⟨vf,rfl,Db,CP⟩;have HU:=k0 (Kd.d_ (Kd.bx Db (fun _ _=>trivial)) (aU (aG yE.out yD.out)));have HH:=k0 (aG yD.out CP);clear Db CP))
       go_roundg k2
       case measure=>have dm:=bp.out;omega
       case rel=>exact ⟨t',H',⟨by have cS:=bp.out;omega⟩,HU,HH⟩
   rw [if_pos AQ] at H
   have Jc:=decide_eq_true AQ
   have H':=k0 H
   clear H AQ
   go_wp2
   go_loopg [7] k1 (fun kq v7 w'=>∃ (o:List Int),ak (bW.l1 kq l0 a2 o ds d=some r)∧ak (kq≤k1)∧ak (Kd.R (Kd.int .i64) 2 w' w.heap.size (fun _=>True) v7 o)∧ak (Below w2.heap.size w2 w'))
   case atStart=>exact ⟨o,H',⟨Nat.le_refl _⟩,HO,HB⟩
   case round =>
    clear H' HO HB
    obtain ⟨o,HA,bp,HO,HB⟩:=hrel
    cases gk with
    | zero=>exact absurd HA.out (by simp [bW.l1])
    | succ k2 =>
     have H:=HA.out
     clear HA
     simp only [bW.l1] at H
     replace H:=iS H;obtain ⟨cg,H⟩:=H
     have HG:=k0 cg
     have H':=k0 H
     clear H cg
     obtain ⟨Ao,co,eo⟩:=Kd.fh HO.out
     subst eo
     obtain ⟨gS,FU⟩:∃ gS,gS=wr.heap.size:=⟨_,rfl⟩
     have F5:=Tt (P:=Try.prog) (w:=wr.alloc (.cells #[.bool false,.bool false,.bool false,.bool false,.bool false,.bool false,.bool false,.bool false] 133)) (g:=wr.heap.size) (o:=0) 133 (.agg #[.bool false,.bool false,.bool false,.bool false,.bool false,.bool false,.bool false,.bool false]) [.bool false,.bool false,.bool false,.bool false,.bool false,.bool false,.bool false,.bool false] (heap_alloc_new wr _) rfl (by kernel_rfl) (by simp) (by simp [Value.oneCell'])
     have NN:=k0 F5
     clear F5
     go_wp2_with ((with_reducible refine kW (t:=133) (p:=11) rfl ?_);refine alT (t:=133) (p:=11) (v:=?aff) (w1:=(wr.alloc (.cells #[.bool false,.bool false,.bool false,.bool false,.bool false,.bool false,.bool false,.bool false] 133)).setCells wr.heap.size 0 [.bool false,.bool false,.bool false,.bool false,.bool false,.bool false,.bool false,.bool false]) ?hg ?ho ?hn ?hr ?_;(case ho=>rfl);(case hg=>rfl);(case hn=>rfl);(case hr=>(unfold execOp;dsimp only;(show Sem.run Try.prog (do Instr.storeAt 133 (Value.pointer (some ⟨wr.heap.size,0,none⟩)) (.agg #[.bool false,.bool false,.bool false,.bool false,.bool false,.bool false,.bool false,.bool false]);pure Next.skip) (wr.alloc (.cells #[.bool false,.bool false,.bool false,.bool false,.bool false,.bool false,.bool false,.bool false] 133))=_);rw [Sem.run_bind,NN.out];rfl));intro wz R9;have HW:=k0 R9;clear R9)
     obtain ⟨Fv,xN,Qc,FJ⟩:=vk [.bool false,.bool false,.bool false,.bool false,.bool false,.bool false,.bool false,.bool false] 0 (wr.alloc (.cells #[.bool false,.bool false,.bool false,.bool false,.bool false,.bool false,.bool false,.bool false] 133)) _ (heap_alloc_new wr _) (by simp)
     have anD:Fv=((bW.oL ds d 0).map Value.bool).toArray:=Array.toList_inj.1 (by rw [FJ,bW.aew];rfl)
     rw [anD] at xN
     have anj:Below wr.heap.size wr ((wr.alloc (.cells #[.bool false,.bool false,.bool false,.bool false,.bool false,.bool false,.bool false,.bool false] 133)).setCells wr.heap.size 0 [.bool false,.bool false,.bool false,.bool false,.bool false,.bool false,.bool false,.bool false]):=by
      have amP:=Nat.le_refl wr.heap.size
      simp only [World.setCells]
      exact dI (dI (dI (dI (dI (dI (dI (dI (bL (Below.refl _ wr) _) amP) amP) amP) amP) amP) amP) amP) amP
     rw [← HW.out] at xN anj
     have BK:=k0 xN
     have BB:=k0 anj
     clear HW NN xN FJ anD Qc Fv anj
     rw [← FU] at BK ⊢
     obtain ⟨wA,R8⟩:∃ wA,wA=wr:=⟨_,rfl⟩
     rw [← R8] at BB FU HB HO
     have U_:=k0 FU
     clear FU R8
     have aiK:l0.length≤8:=HG.out.1
     go_loopw [10,12] (fun v10 i wq=>∃ k':Nat,k'≤l0.length∧i=.int .i64 k'∧v10=.bool (bW.amr ds o d k')∧ak (wq.heap[gS]?=some (.cells ((bW.oL ds d k').map Value.bool).toArray 133 (0,0)))∧ak (Below wA.heap.size wA wq)) (fun _ i _=>l0.length - (intOf i).toNat)
     case atStart=>exact ⟨0,Nat.zero_le _,rfl,rfl,BK,BB⟩
     case round =>
      clear BK BB
      obtain ⟨k',hk,rfl,rfl,BK,BB⟩:=hrel
      by_cases hlt:k' < l0.length
      case neg =>
       obtain rfl:k'=l0.length:=by omega
       have Ro:decide ((l0.length:Int) < (l0.length:Int))=false:=by simp
       have Aj:=k0 (aG HB.out BB.out)
       have HOr:=k0 (Kd.ct HO.out BB.out)
       have H:=H'.out
       clear H' hlt
       cases hbd:bW.amr ds o d l0.length with
       | false =>
        rw [hbd] at H
        simp only [Bool.false_eq_true,if_false] at H
        have H':=k0 H
        clear H
        go_wp2
        go_roundg k2
        case measure=>have dm:=bp.out;omega
        case rel=>exact ⟨o,wrap64 (d - 1),rs,H',⟨by have dm:=aM.out;have cS:=bp.out;omega⟩,HOr,Aj⟩
       | true =>
        rw [hbd] at H
        simp only [if_true] at H
        obtain ⟨t',ht',H⟩:=Option.bind_eq_some_iff.mp H
        have H':=k0 H
        have AF:=k0 ht'
        clear H ht'
        obtain ⟨b0,b1,b2,b3,b4,b5,b6,b7,Qb⟩:=bW.Ju _ (bW.L1 ds d l0.length)
        rw [Qb] at BK AF
        have q0:wr.cell? ⟨gS,0,none⟩=some (.bool b0):=(av BK.out 0).trans rfl
        have q1:wr.cell? ⟨gS,1,none⟩=some (.bool b1):=(av BK.out 1).trans rfl
        have q2:wr.cell? ⟨gS,2,none⟩=some (.bool b2):=(av BK.out 2).trans rfl
        have q3:wr.cell? ⟨gS,3,none⟩=some (.bool b3):=(av BK.out 3).trans rfl
        have q4:wr.cell? ⟨gS,4,none⟩=some (.bool b4):=(av BK.out 4).trans rfl
        have q5:wr.cell? ⟨gS,5,none⟩=some (.bool b5):=(av BK.out 5).trans rfl
        have q6:wr.cell? ⟨gS,6,none⟩=some (.bool b6):=(av BK.out 6).trans rfl
        have q7:wr.cell? ⟨gS,7,none⟩=some (.bool b7):=(av BK.out 7).trans rfl
        clear Qb
        go_wp2_with (go_at_call 175;refine (cY.yT k2 A0 c0 l0 (Ao) co o [b0,b1,b2,b3,b4,b5,b6,b7] 1 t' _ (Kd.bI (Kd.bI eA.out yE.out) Aj.out) kP.out (Kd.bn HOr.out).2.2 (Kd.bn HOr.out).2.1 rfl AF.out).mono ?_;rintro e wf ⟨vf,rfl,Db,CP⟩;have HU:=k0 (Kd.bx Db (fun _ _=>trivial));have HH:=k0 (aG Aj.out CP);clear Db CP)
        go_roundg k2
        case measure=>have dm:=bp.out;omega
        case rel=>exact ⟨t',H',⟨by have cS:=bp.out;omega⟩,⟨Kd.d_ HU.out (aU (aG yE.out Aj.out))⟩,HH⟩
      have Aj:Below w2.heap.size w2 wr:=aG HB.out BB.out
      obtain ⟨ad,e,hcd⟩:=Kd.bS (Kd.bI U9.out Aj) k' (by omega) (by have h_:=HG.out.2.1;omega)
      cases e
      obtain ⟨ao,e,FL⟩:=Kd.bS (Kd.bI (Kd.bn HO.out).2.2 BB.out) k' (by omega) (by have h_:=HG.out.2.2;omega)
      cases e
      rw [Int.toNat_natCast] at hcd FL
      have KQ:k' < 8:=by omega
      have hq:wr.cell? ⟨gS,k',none⟩=some (.bool ((bW.oL ds d k').getD k' false)):=by
       rw [av BK.out k',List.getD_eq_getElem?_getD,List.getElem?_eq_getElem (by rw [bW.L1];exact KQ)]
       simp [bW.L1,KQ]
      have hf:wr.frozen? ⟨gS,k',none⟩=false:=ale BK.out k'
      have hS:∀ W,W=wr.setCell ⟨gS,k',none⟩ (.bool (decide (rd ds k' < d)))→ak (W.heap[gS]?=some (.cells ((bW.oL ds d (k'+1)).map Value.bool).toArray 133 (0,0))):=by
       intro W hW
       subst hW
       exact ⟨by rw [Fg BK.out k' (Value.bool (decide (rd ds k' < d))),← bW.aev ds d k' KQ];simp [List.map_set]⟩
      have Z_:ak (Below wA.heap.size wA (wr.setCell ⟨gS,k',none⟩ (.bool (decide (rd ds k' < d))))):=⟨dI BB.out (Nat.le_of_eq U_.out.symm)⟩
      have hS:=hS _ rfl
      have hkd:k' < ds.length:=by have h_:=HG.out.2.1;omega
      have hko:k' < o.length:=by have h_:=HG.out.2.2;omega
      have hdn:=bW.Yy ds o d k'
      have Ro:decide ((k':Int) < (l0.length:Int))=true:=decide_eq_true (by omega)
      cases hbd:bW.amr ds o d k'<;>cases hbe:(rd ds k' == d)<;>cases hbn:decide (rd o k' < 0)<;>simp only [hbd,hbe,hbn,Bool.or_true,Bool.or_false,Bool.true_and,Bool.false_and,Bool.and_true,Bool.and_false,Bool.true_or,Bool.false_or] at hdn
      all_goals (
       go_wp2_with fail
       go_roundw
       case rel=>exact ⟨k'+1,by omega,by go_num,by rw [hdn],hS,Z_⟩
       case measure=>simp [intOf];omega)
/-! ### F201: function 201 -/
def Ag.f (af:Int) (aa:List (List Int)) (a1:Int):Option (Int × Int):=if 0≤(wrap64 (Int.tdiv a1 2)) then (if (wrap64 (Int.tdiv a1 2)) < (aa.length:Int) then (if (Int.tmod a1 2)=1 then (if 1 < ((ag aa (wrap64 (Int.tdiv a1 2))).length:Int) then (if 0 < ((ag aa (wrap64 (Int.tdiv a1 2))).length:Int) then (some (rd (ag aa (wrap64 (Int.tdiv a1 2))) 1,rd (ag aa (wrap64 (Int.tdiv a1 2))) 0)) else (none)) else (none)) else (if 0 < ((ag aa (wrap64 (Int.tdiv a1 2))).length:Int) then (if 1 < ((ag aa (wrap64 (Int.tdiv a1 2))).length:Int) then (some (rd (ag aa (wrap64 (Int.tdiv a1 2))) 0,rd (ag aa (wrap64 (Int.tdiv a1 2))) 1)) else (none)) else (none))) else (none)) else (none)
set_option maxHeartbeats 8000000 in
set_option maxRecDepth 100000 in
theorem Ag.calls (af : Int) (au : Option Addr) (aq : Nat) (aa : List (List Int)) (a1 : Int) (r1 : Int) (r2 : Int) (w : World) (cl : Kd.C (Kd.slice 2 (Kd.int .i64)) w au aa.length aa) (cn : aa.length ≤ aq) (h : Ag.f af aa a1 = some (r1, r2)) :
  Calls Try.prog 201 #[.agg #[.int .i64 af,.slice au aa.length aq],.int .i64 a1] w fun e w'=>e=.returned (.tuple #[.int .i64 r1,.int .i64 r2])∧Below w.heap.size w w':=by
 have kF:=Try.underlying31
 have alx:=k0 cl
 have di:=k0 cn
 clear cl cn
 have HB:=k0 (Below.refl w.heap.size w)
 have H:(if 0≤(wrap64 (Int.tdiv a1 2)) then (if (wrap64 (Int.tdiv a1 2)) < (aa.length:Int) then (if (Int.tmod a1 2)=1 then (if 1 < ((ag aa (wrap64 (Int.tdiv a1 2))).length:Int) then (if 0 < ((ag aa (wrap64 (Int.tdiv a1 2))).length:Int) then (some (rd (ag aa (wrap64 (Int.tdiv a1 2))) 1,rd (ag aa (wrap64 (Int.tdiv a1 2))) 0)) else (none)) else (none)) else (if 0 < ((ag aa (wrap64 (Int.tdiv a1 2))).length:Int) then (if 1 < ((ag aa (wrap64 (Int.tdiv a1 2))).length:Int) then (some (rd (ag aa (wrap64 (Int.tdiv a1 2))) 0,rd (ag aa (wrap64 (Int.tdiv a1 2))) 1)) else (none)) else (none))) else (none)) else (none))=some (r1,r2):=h
 clear h
 obtain ⟨alz,C6⟩:∃ j_:Int,(wrap64 (Int.tdiv a1 2))=j_:=⟨_,rfl⟩
 replace H:(if 0≤(alz) then (if (alz) < (aa.length:Int) then (if (Int.tmod a1 2)=1 then (if 1 < ((ag aa (alz)).length:Int) then (if 0 < ((ag aa (alz)).length:Int) then (some (rd (ag aa (alz)) 1,rd (ag aa (alz)) 0)) else (none)) else (none)) else (if 0 < ((ag aa (alz)).length:Int) then (if 1 < ((ag aa (alz)).length:Int) then (some (rd (ag aa (alz)) 0,rd (ag aa (alz)) 1)) else (none)) else (none))) else (none)) else (none))=some (r1,r2):=by first|(rw [C6] at H;exact H)|(simp only [C6] at H ⊢;exact H)
 have aiF:(IntKind.i64.wrap (Int.tdiv a1 2))=alz:=(cQ _).trans C6
 replace H:=iS H;obtain ⟨c4,H⟩:=H
 have eV:=decide_eq_true c4
 clear c4
 replace H:=iS H;obtain ⟨c5,H⟩:=H
 have jb:=decide_eq_true c5
 clear c5
 by_cases c6:(Int.tmod a1 2)=1
 case neg =>
  rw [if_neg c6] at H
  have jk:((Int.tmod a1 2) == 1)=false:=beq_eq_false_iff_ne.mpr c6
  have Fo:((Int.tmod a1 2) != 1)=true:=bne_iff_ne.mpr c6
  replace H:=iS H;obtain ⟨c11,H⟩:=H
  have l_:=decide_eq_true c11
  have amo:decide (0 < (ag aa (alz)).length)=true:=decide_eq_true (by omega)
  clear c11
  replace H:=iS H;obtain ⟨c12,H⟩:=H
  have r7:=decide_eq_true c12
  have AM:decide (1 < (ag aa (alz)).length)=true:=decide_eq_true (by omega)
  clear c12
  simp only [Option.some.injEq,Prod.mk.injEq] at H
  obtain ⟨rfl,rfl⟩:=H
  go_enter Try.func201,Try.ntmps201
  go_wp2_with (first|((with_reducible refine cy (N:=2) rfl ?_);refine ec ?hg (N:=2) ?hd (cs:=#[.int .i64 af,.slice au aa.length aq]) (t:=31) ?hr ?_;(case hd=>rfl);(case hg=>rfl);(case hr=>first|(go_simp;done)|(go_simp;rfl));intro ai hg alU aJ hb;have ah:=k0 (aJ);have cr:=k0 ((by rw [hg];exact (aU bl):w.heap.size≤ai));have eL:=cr;replace HB:=k0 (aG bl hb);clear hb aJ hg;have wm:alU.cell? ⟨ai,0,none⟩=some (.int .i64 af):=(av ah.out 0).trans rfl;have wo:alU.cell? ⟨ai,1,none⟩=some (.slice au aa.length aq):=(av ah.out 1).trans rfl;have wC:=ale ah.out 0;have wD:=ale ah.out 1;have eR:0≤((alz):Int):=oD;have eS:(alz) < (aa.length:Int):=oD;obtain ⟨rj,vt,vN,e102,jd,jz,jx⟩:=cZ alx.out (alz) eR eS;cases e102;replace jd:=hbc HB jd;have jq:=k0 jx;have pR:=k0 jz;clear jx jz;replace eR:=eq_true eR;replace eS:=eq_true eS;have dg:0≤(0:Int):=(by omega);have cX:0 < ((ag aa (alz)).length:Int):=oD;obtain ⟨kz,e105,dX⟩:=Kd.bS jq.out 0 dg cX;cases e105;have D8:(0 < (ag aa (alz)).length)=True:=eq_true (by omega);(try rw [show ((0:Int)).toNat=0 from rfl] at dX);(try rw [Addr.add_zero'] at dX);replace dX:=hbc HB dX;replace dg:=eq_true dg;replace cX:=eq_true cX;have dK:0≤(1:Int):=(by omega);have dH:1 < ((ag aa (alz)).length:Int):=oD;obtain ⟨alH,e106,dD⟩:=Kd.bS jq.out 1 dK dH;obtain rfl:kz=alH:=(by injection e106);(try simp only [show (1:Int).toNat=1 from rfl,Nat.reduceMul,Nat.reduceEqDiff,Go.Addr.add,↓reduceIte] at dD);have Bv:(1 < (ag aa (alz)).length)=True:=eq_true (by omega);(try rw [show ((1:Int)).toNat=1 from rfl] at dD);replace dD:=hbc HB dD;replace dK:=eq_true dK;replace dH:=eq_true dH))
  repeat (go_quiet (first|((with_reducible refine cy (N:=2) rfl ?_);refine ec ?hg (N:=2) ?hd (cs:=#[.int .i64 af,.slice au aa.length aq]) (t:=31) ?hr ?_;(case hd=>rfl);(case hg=>rfl);(case hr=>first|(go_simp;done)|(go_simp;rfl));intro ai hg alU aJ hb;have ah:=k0 (aJ);have cr:=k0 ((by rw [hg];exact (aU bl):w.heap.size≤ai));have eL:=cr;replace HB:=k0 (aG bl hb);clear hb aJ hg;have wm:alU.cell? ⟨ai,0,none⟩=some (.int .i64 af):=(av ah.out 0).trans rfl;have wo:alU.cell? ⟨ai,1,none⟩=some (.slice au aa.length aq):=(av ah.out 1).trans rfl;have wC:=ale ah.out 0;have wD:=ale ah.out 1;have eR:0≤((alz):Int):=oD;have eS:(alz) < (aa.length:Int):=oD;obtain ⟨rj,vt,vN,e102,jd,jz,jx⟩:=cZ alx.out (alz) eR eS;cases e102;replace jd:=hbc HB jd;have jq:=k0 jx;have pR:=k0 jz;clear jx jz;replace eR:=eq_true eR;replace eS:=eq_true eS;have dg:0≤(0:Int):=(by omega);have cX:0 < ((ag aa (alz)).length:Int):=oD;obtain ⟨kz,e105,dX⟩:=Kd.bS jq.out 0 dg cX;cases e105;have D8:(0 < (ag aa (alz)).length)=True:=eq_true (by omega);(try rw [show ((0:Int)).toNat=0 from rfl] at dX);(try rw [Addr.add_zero'] at dX);replace dX:=hbc HB dX;replace dg:=eq_true dg;replace cX:=eq_true cX;have dK:0≤(1:Int):=(by omega);have dH:1 < ((ag aa (alz)).length:Int):=oD;obtain ⟨alH,e106,dD⟩:=Kd.bS jq.out 1 dK dH;obtain rfl:kz=alH:=(by injection e106);(try simp only [show (1:Int).toNat=1 from rfl,Nat.reduceMul,Nat.reduceEqDiff,Go.Addr.add,↓reduceIte] at dD);have Bv:(1 < (ag aa (alz)).length)=True:=eq_true (by omega);(try rw [show ((1:Int)).toNat=1 from rfl] at dD);replace dD:=hbc HB dD;replace dK:=eq_true dK;replace dH:=eq_true dH));try go_wp2_with (first|((with_reducible refine cy (N:=2) rfl ?_);refine ec ?hg (N:=2) ?hd (cs:=#[.int .i64 af,.slice au aa.length aq]) (t:=31) ?hr ?_;(case hd=>rfl);(case hg=>rfl);(case hr=>first|(go_simp;done)|(go_simp;rfl));intro ai hg alU aJ hb;have ah:=k0 (aJ);have cr:=k0 ((by rw [hg];exact (aU bl):w.heap.size≤ai));have eL:=cr;replace HB:=k0 (aG bl hb);clear hb aJ hg;have wm:alU.cell? ⟨ai,0,none⟩=some (.int .i64 af):=(av ah.out 0).trans rfl;have wo:alU.cell? ⟨ai,1,none⟩=some (.slice au aa.length aq):=(av ah.out 1).trans rfl;have wC:=ale ah.out 0;have wD:=ale ah.out 1;have eR:0≤((alz):Int):=oD;have eS:(alz) < (aa.length:Int):=oD;obtain ⟨rj,vt,vN,e102,jd,jz,jx⟩:=cZ alx.out (alz) eR eS;cases e102;replace jd:=hbc HB jd;have jq:=k0 jx;have pR:=k0 jz;clear jx jz;replace eR:=eq_true eR;replace eS:=eq_true eS;have dg:0≤(0:Int):=(by omega);have cX:0 < ((ag aa (alz)).length:Int):=oD;obtain ⟨kz,e105,dX⟩:=Kd.bS jq.out 0 dg cX;cases e105;have D8:(0 < (ag aa (alz)).length)=True:=eq_true (by omega);(try rw [show ((0:Int)).toNat=0 from rfl] at dX);(try rw [Addr.add_zero'] at dX);replace dX:=hbc HB dX;replace dg:=eq_true dg;replace cX:=eq_true cX;have dK:0≤(1:Int):=(by omega);have dH:1 < ((ag aa (alz)).length:Int):=oD;obtain ⟨alH,e106,dD⟩:=Kd.bS jq.out 1 dK dH;obtain rfl:kz=alH:=(by injection e106);(try simp only [show (1:Int).toNat=1 from rfl,Nat.reduceMul,Nat.reduceEqDiff,Go.Addr.add,↓reduceIte] at dD);have Bv:(1 < (ag aa (alz)).length)=True:=eq_true (by omega);(try rw [show ((1:Int)).toNat=1 from rfl] at dD);replace dD:=hbc HB dD;replace dK:=eq_true dK;replace dH:=eq_true dH)))
  go_ret2
  exact ⟨by first|rfl|(simp [bA,bB]<;>rfl)|(simp only [← C6];first|rfl|(simp [bA,bB]<;>rfl))|(simp [*,bA,bB]<;>rfl),bl⟩
 rw [if_pos c6] at H
 have jk:((Int.tmod a1 2) == 1)=true:=beq_iff_eq.mpr c6
 have Fo:((Int.tmod a1 2) != 1)=false:=bne_eq_false_iff_eq.mpr c6
 clear c6
 replace H:=iS H;obtain ⟨c7,H⟩:=H
 have iz:=decide_eq_true c7
 have AV:decide (1 < (ag aa (alz)).length)=true:=decide_eq_true (by omega)
 clear c7
 replace H:=iS H;obtain ⟨c8,H⟩:=H
 have jw:=decide_eq_true c8
 have Jh:decide (0 < (ag aa (alz)).length)=true:=decide_eq_true (by omega)
 clear c8
 simp only [Option.some.injEq,Prod.mk.injEq] at H
 obtain ⟨rfl,rfl⟩:=H
 go_enter Try.func201,Try.ntmps201
 go_wp2_with (first|((with_reducible refine cy (N:=2) rfl ?_);refine ec ?hg (N:=2) ?hd (cs:=#[.int .i64 af,.slice au aa.length aq]) (t:=31) ?hr ?_;(case hd=>rfl);(case hg=>rfl);(case hr=>first|(go_simp;done)|(go_simp;rfl));intro ai hg w9 aJ hb;have ah:=k0 (aJ);have cr:=k0 ((by rw [hg];exact (aU bl):w.heap.size≤ai));have eL:=cr;replace HB:=k0 (aG bl hb);clear hb aJ hg;have wj:w9.cell? ⟨ai,0,none⟩=some (.int .i64 af):=(av ah.out 0).trans rfl;have wk:w9.cell? ⟨ai,1,none⟩=some (.slice au aa.length aq):=(av ah.out 1).trans rfl;have amG:=ale ah.out 0;have wB:=ale ah.out 1;have eR:0≤((alz):Int):=oD;have eS:(alz) < (aa.length:Int):=oD;obtain ⟨rj,vt,vN,e102,jd,jz,jx⟩:=cZ alx.out (alz) eR eS;cases e102;replace jd:=hbc HB jd;have jq:=k0 jx;have pR:=k0 jz;clear jx jz;replace eR:=eq_true eR;replace eS:=eq_true eS;have dQ:0≤(1:Int):=(by omega);have dR:1 < ((ag aa (alz)).length:Int):=oD;obtain ⟨ji,e103,en⟩:=Kd.bS jq.out 1 dQ dR;cases e103;(try simp only [show (1:Int).toNat=1 from rfl,Nat.reduceMul,Nat.reduceEqDiff,Go.Addr.add,↓reduceIte] at en);have Tf:(1 < (ag aa (alz)).length)=True:=eq_true (by omega);(try rw [show ((1:Int)).toNat=1 from rfl] at en);replace en:=hbc HB en;replace dQ:=eq_true dQ;replace dR:=eq_true dR;have cV:0≤(0:Int):=(by omega);have cW:0 < ((ag aa (alz)).length:Int):=oD;obtain ⟨ku,e104,cN⟩:=Kd.bS jq.out 0 cV cW;obtain rfl:ji=ku:=(by injection e104);have D7:(0 < (ag aa (alz)).length)=True:=eq_true (by omega);(try rw [show ((0:Int)).toNat=0 from rfl] at cN);(try rw [Addr.add_zero'] at cN);replace cN:=hbc HB cN;replace cV:=eq_true cV;replace cW:=eq_true cW))
 repeat (go_quiet (first|((with_reducible refine cy (N:=2) rfl ?_);refine ec ?hg (N:=2) ?hd (cs:=#[.int .i64 af,.slice au aa.length aq]) (t:=31) ?hr ?_;(case hd=>rfl);(case hg=>rfl);(case hr=>first|(go_simp;done)|(go_simp;rfl));intro ai hg w9 aJ hb;have ah:=k0 (aJ);have cr:=k0 ((by rw [hg];exact (aU bl):w.heap.size≤ai));have eL:=cr;replace HB:=k0 (aG bl hb);clear hb aJ hg;have wj:w9.cell? ⟨ai,0,none⟩=some (.int .i64 af):=(av ah.out 0).trans rfl;have wk:w9.cell? ⟨ai,1,none⟩=some (.slice au aa.length aq):=(av ah.out 1).trans rfl;have amG:=ale ah.out 0;have wB:=ale ah.out 1;have eR:0≤((alz):Int):=oD;have eS:(alz) < (aa.length:Int):=oD;obtain ⟨rj,vt,vN,e102,jd,jz,jx⟩:=cZ alx.out (alz) eR eS;cases e102;replace jd:=hbc HB jd;have jq:=k0 jx;have pR:=k0 jz;clear jx jz;replace eR:=eq_true eR;replace eS:=eq_true eS;have dQ:0≤(1:Int):=(by omega);have dR:1 < ((ag aa (alz)).length:Int):=oD;obtain ⟨ji,e103,en⟩:=Kd.bS jq.out 1 dQ dR;cases e103;(try simp only [show (1:Int).toNat=1 from rfl,Nat.reduceMul,Nat.reduceEqDiff,Go.Addr.add,↓reduceIte] at en);have Tf:(1 < (ag aa (alz)).length)=True:=eq_true (by omega);(try rw [show ((1:Int)).toNat=1 from rfl] at en);replace en:=hbc HB en;replace dQ:=eq_true dQ;replace dR:=eq_true dR;have cV:0≤(0:Int):=(by omega);have cW:0 < ((ag aa (alz)).length:Int):=oD;obtain ⟨ku,e104,cN⟩:=Kd.bS jq.out 0 cV cW;obtain rfl:ji=ku:=(by injection e104);have D7:(0 < (ag aa (alz)).length)=True:=eq_true (by omega);(try rw [show ((0:Int)).toNat=0 from rfl] at cN);(try rw [Addr.add_zero'] at cN);replace cN:=hbc HB cN;replace cV:=eq_true cV;replace cW:=eq_true cW));try go_wp2_with (first|((with_reducible refine cy (N:=2) rfl ?_);refine ec ?hg (N:=2) ?hd (cs:=#[.int .i64 af,.slice au aa.length aq]) (t:=31) ?hr ?_;(case hd=>rfl);(case hg=>rfl);(case hr=>first|(go_simp;done)|(go_simp;rfl));intro ai hg w9 aJ hb;have ah:=k0 (aJ);have cr:=k0 ((by rw [hg];exact (aU bl):w.heap.size≤ai));have eL:=cr;replace HB:=k0 (aG bl hb);clear hb aJ hg;have wj:w9.cell? ⟨ai,0,none⟩=some (.int .i64 af):=(av ah.out 0).trans rfl;have wk:w9.cell? ⟨ai,1,none⟩=some (.slice au aa.length aq):=(av ah.out 1).trans rfl;have amG:=ale ah.out 0;have wB:=ale ah.out 1;have eR:0≤((alz):Int):=oD;have eS:(alz) < (aa.length:Int):=oD;obtain ⟨rj,vt,vN,e102,jd,jz,jx⟩:=cZ alx.out (alz) eR eS;cases e102;replace jd:=hbc HB jd;have jq:=k0 jx;have pR:=k0 jz;clear jx jz;replace eR:=eq_true eR;replace eS:=eq_true eS;have dQ:0≤(1:Int):=(by omega);have dR:1 < ((ag aa (alz)).length:Int):=oD;obtain ⟨ji,e103,en⟩:=Kd.bS jq.out 1 dQ dR;cases e103;(try simp only [show (1:Int).toNat=1 from rfl,Nat.reduceMul,Nat.reduceEqDiff,Go.Addr.add,↓reduceIte] at en);have Tf:(1 < (ag aa (alz)).length)=True:=eq_true (by omega);(try rw [show ((1:Int)).toNat=1 from rfl] at en);replace en:=hbc HB en;replace dQ:=eq_true dQ;replace dR:=eq_true dR;have cV:0≤(0:Int):=(by omega);have cW:0 < ((ag aa (alz)).length:Int):=oD;obtain ⟨ku,e104,cN⟩:=Kd.bS jq.out 0 cV cW;obtain rfl:ji=ku:=(by injection e104);have D7:(0 < (ag aa (alz)).length)=True:=eq_true (by omega);(try rw [show ((0:Int)).toNat=0 from rfl] at cN);(try rw [Addr.add_zero'] at cN);replace cN:=hbc HB cN;replace cV:=eq_true cV;replace cW:=eq_true cW)))
 go_ret2
 exact ⟨by first|rfl|(simp [bA,bB]<;>rfl)|(simp only [← C6];first|rfl|(simp [bA,bB]<;>rfl))|(simp [*,bA,bB]<;>rfl),bl⟩
/-! ### F120: function 120 -/
mutual
def eU.l0 : Nat → List (List Int) → Int → Int → List (List Int) → Option ((List (List Int)))
 | 0,_,_,_,_=>none
 | k+1,x3,x4,bU,bN=>if x4 < bU then (if 0≤bU then (if (bU:Int).toNat≤35184372088832 then (if x3.length < 5864062014805 then (eU.l0 k (x3 ++ [(List.replicate (bU:Int).toNat 0)]) (wrap64 (x4+1)) bU bN) else (none)) else (none)) else (none)) else (eU.l1 k x3 0 bU bN)
def eU.l1 : Nat → List (List Int) → Int → Int → List (List Int) → Option ((List (List Int)))
 | 0,_,_,_,_=>none
 | k+1,x3,x5,bU,bN=>if x5 < (wrap64 (2 * (bN.length:Int))) then ((Ag.f bU bN x5).bind fun uO=>(if 0≤uO.1 then (if uO.1 < (x3.length:Int) then (if 0≤uO.2 then (if uO.2 < ((ag x3 uO.1).length:Int) then (eU.l1 k (x3.set (uO.1:Int).toNat ((ag x3 uO.1).set (uO.2:Int).toNat (wrap64 ((rd (ag x3 uO.1) uO.2)+1)))) (wrap64 (x5+1)) bU bN) else (none)) else (none)) else (none)) else (none))) else (some x3)
end
def eU.f (k:Nat) (af:Int) (aa:List (List Int)):Option ((List (List Int))):=eU.l0 k (([]:List (List Int))) 0 af aa
theorem eU.cj : ∀ k, (∀ y0 y1 y2 y3, aj (eU.l0 k y0 y1 y2 y3) (eU.l0 (k + 1) y0 y1 y2 y3)) ∧ (∀ y0 y1 y2 y3, aj (eU.l1 k y0 y1 y2 y3) (eU.l1 (k + 1) y0 y1 y2 y3))
 | 0=>⟨fun _ _ _ _ r h=>by simp [eU.l0] at h,fun _ _ _ _ r h=>by simp [eU.l1] at h⟩
 | k+1=>by
  obtain ⟨ali,ih1⟩:=eU.cj k
  refine ⟨?_, ?_⟩ <;> intros <;> (first | unfold eU.l0 | unfold eU.l1) <;> repeat' first
   | (with_reducible first|exact ali _ _ _ _|exact ih1 _ _ _ _|exact aj.refl _|exact aj.none _|refine aj.ite ?_ ?_|refine aj.bind ?_ (fun _=>?_))
   | exact ali _ _ _ _|exact ih1 _ _ _ _|exact aj.none _|refine aj.ite ?_ ?_|refine aj.bind ?_ (fun _=>?_)
theorem eU.mono:∀ a0 a1 k,aj (eU.f k a0 a1) (eU.f (k+1) a0 a1):=by
 intro a0 a1 k
 obtain ⟨ali,ih1⟩:=eU.cj k
 unfold eU.f
 repeat' first
  | (with_reducible first|exact ali _ _ _ _|exact ih1 _ _ _ _|exact aj.refl _|exact aj.none _|refine aj.ite ?_ ?_|refine aj.bind ?_ (fun _=>?_))
  | exact ali _ _ _ _|exact ih1 _ _ _ _|exact aj.none _|refine aj.ite ?_ ?_|refine aj.bind ?_ (fun _=>?_)
set_option maxHeartbeats 8000000 in
set_option maxRecDepth 100000 in
theorem eU.calls (k : Nat) (af : Int) (au : Option Addr) (aq : Nat) (aa : List (List Int)) (r : List (List Int)) (w : World) (cl : Kd.C (Kd.slice 2 (Kd.int .i64)) w au aa.length aa) (cn : aa.length ≤ aq) (h : eU.f k af aa = some r) :
  Calls Try.prog 120 #[.agg #[.int .i64 af,.slice au aa.length aq]] w fun e w'=>∃ cF:Value,e=.returned (cF)∧Kd.S (Kd.slice 2 (Kd.int .i64)) 28 w' w.heap.size (fun _=>True) cF r∧Below w.heap.size w w':=by
 have kF:=Try.underlying31
 have alx:=k0 cl
 have di:=k0 cn
 clear cl cn
 have HB:=k0 (Below.refl w.heap.size w)
 have H:(eU.l0 k (([]:List (List Int))) 0 af aa)=some r:=h
 clear h
 obtain ⟨eT,eH⟩:∃ y_:List (List Int),y_=(([]:List (List Int))):=⟨_,rfl⟩
 replace H:(eU.l0 k eT 0 af aa)=some r:=by first|(rw [eH];with_reducible exact H)|(have ax:=(Option.bind_some _ _).symm.trans H;rw [eH];with_reducible exact ax)|(have ax:=(Option.bind_some _ _).symm.trans H;with_reducible exact ax)|with_reducible exact H|(rw [eH];exact H)|exact H
 have alG:=k0 eH
 clear eH
 have H':=k0 H
 clear H
 go_enter Try.func120,Try.ntmps120
 go_wp2_with (first|((with_reducible refine cy (N:=1) rfl ?_);refine ec ?hg (N:=1) ?hd (cs:=#[.int .i64 af,.slice au aa.length aq]) (t:=31) ?hr ?_;(case hd=>rfl);(case hg=>rfl);(case hr=>first|(go_simp;done)|(go_simp;rfl));intro ai hg w2 aJ hb;have ah:=k0 (aJ);have cr:=k0 ((by rw [hg];exact (aU bl):w.heap.size≤ai));have eL:=cr;replace HB:=k0 (aG bl hb);clear hb aJ hg)|((with_reducible refine cy (N:=9) rfl ?_);refine Kd.B7 (Kd.slice 2 (Kd.int .i64)) _ 28 ?hg (N:=9) ?hd (xs:=([]:List (List Int))) (inner:=[]) (ok:=fun _=>True) (cC:=fun _=>True) ?hr ?hp (fun _ hk=>hk) trivial (Below.refl _ _) (Nat.le_refl _) (by simp) ?_;(case hd=>rfl);(case hg=>rfl);(case hr=>first|(go_simp;done)|(go_simp;rfl));(case hp=>exact (bY.none _ _));intro dw w3 ek hb ew ey;clear ew ey;(first|rw [← alG.out] at ek|(simp only [Int.reduceToNat] at ek;rw [← alG.out] at ek));have a_:=k0 (Kd.pU ek (aU bl));replace ah:=k0 (alg (g:=ai) (o:=sO af au aa aq 31) bk hb);replace HB:=k0 (aG bl hb);clear hb ek))
 go_loopg [3,4] k (fun kq v3 v4 w'=>∃ (bE:List (List Int)) (aZ:Int),v4=.int .i64 aZ∧ak (eU.l0 kq bE aZ af aa=some r)∧ak (kq≤k)∧ak (Kd.S (Kd.slice 2 (Kd.int .i64)) 28 w' w.heap.size (fun _=>True) v3 bE)∧ak (w'.heap[ai]?=some (sO af au aa aq 31))∧ak (Below w.heap.size w w'))
 case atStart=>exact ⟨(eT),(0),rs,H',⟨Nat.le_refl _⟩,⟨aS (a_.out)⟩,⟨bk⟩,⟨bl⟩⟩
 case round =>
  clear H'
  obtain ⟨bE,aZ,rfl,HA,aM,az,ah,HB⟩:=hrel
  cases gk with
  | zero=>exact absurd HA.out (by simp [eU.l0])
  | succ k1 =>
   have H:=HA.out
   clear HA
   simp only [eU.l0] at H
   by_cases c5:aZ < af
   case neg =>
    rw [if_neg c5] at H
    have jb:decide (aZ < af)=false:=decide_eq_false c5
    clear c5
    have H':=k0 H
    clear H
    have wm:wr.cell? ⟨ai,0,none⟩=some (.int .i64 af):=(av ah.out 0).trans rfl
    have wo:wr.cell? ⟨ai,1,none⟩=some (.slice au aa.length aq):=(av ah.out 1).trans rfl
    have wC:=ale ah.out 0
    have wD:=ale ah.out 1
    go_wp2
    go_loopg [5] k1 (fun kq v5 w'=>∃ (ald:List (List Int)) (alk:Int),v5=.int .i64 alk∧ak (eU.l1 kq ald alk af aa=some r)∧ak (kq≤k1)∧ak (Kd.S (Kd.slice 2 (Kd.int .i64)) 28 w' w.heap.size (fun _=>True) u3 ald)∧ak (w'.heap[ai]?=some (sO af au aa aq 31))∧ak (Below w.heap.size w w'))
    case atStart=>exact ⟨(bE),(0),rs,H',⟨Nat.le_refl _⟩,⟨aS (az.out)⟩,⟨bk⟩,⟨bl⟩⟩
    case round =>
     clear H'
     (try clear c5);(try clear jb);(try clear c6);(try clear jk);(try clear Fo);(try clear c7);(try clear iz);(try clear AV);(try clear c8);(try clear wm);(try clear wo);(try clear tC);(try clear tD);(try clear wC);(try clear wD);(try clear amx);(try clear tH)
     obtain ⟨ald,alk,rfl,HA,bp,az,ah,HB⟩:=hrel
     cases gk with
     | zero=>exact absurd HA.out (by simp [eU.l1])
     | succ k2 =>
      have H:=HA.out
      clear HA
      simp only [eU.l1] at H
      by_cases c15:alk < (wrap64 (2 * (aa.length:Int)))
      case neg =>
       rw [if_neg c15] at H
       have kV:decide (alk < (wrap64 (2 * (aa.length:Int))))=false:=decide_eq_false c15
       clear c15
       obtain rfl:=Option.some.inj H
       have aaT:wr.cell? ⟨ai,0,none⟩=some (.int .i64 af):=(av ah.out 0).trans rfl
       have aaU:wr.cell? ⟨ai,1,none⟩=some (.slice au aa.length aq):=(av ah.out 1).trans rfl
       have abj:=ale ah.out 0
       have abk:=ale ah.out 1
       go_wp2
       go_ret
       exact ⟨_,by first|rfl|(simp [bA,bB]<;>rfl)|(simp [*,bA,bB]<;>rfl),by (with_reducible repeat (first|apply Kd.alN|apply Kd.ig|apply Kd.fI));exact az.out,bl⟩
      rw [if_pos c15] at H
      have kV:=decide_eq_true c15
      clear c15
      replace H:=Option.bind_eq_some_iff.mp H
      obtain ⟨⟨t111,t112⟩,amm,H⟩:=H
      replace H:(if 0≤t111 then (if t111 < (ald.length:Int) then (if 0≤t112 then (if t112 < ((ag ald t111).length:Int) then (eU.l1 k2 (ald.set (t111:Int).toNat ((ag ald t111).set (t112:Int).toNat (wrap64 ((rd (ag ald t111) t112)+1)))) (wrap64 (alk+1)) af aa) else (none)) else (none)) else (none)) else (none))=some r:=H
      have qg:=k0 amm
      clear amm
      replace H:=iS H;obtain ⟨c17,H⟩:=H
      have pF:=decide_eq_true c17
      clear c17
      replace H:=iS H;obtain ⟨c18,H⟩:=H
      have uP:=decide_eq_true c18
      clear c18
      replace H:=iS H;obtain ⟨c19,H⟩:=H
      have mb:=decide_eq_true c19
      clear c19
      replace H:=iS H;obtain ⟨c20,H⟩:=H
      have ot:=decide_eq_true c20
      clear c20
      obtain ⟨dU,gq⟩:∃ y_:List Int,y_=((ag ald t111).set (t112:Int).toNat (wrap64 ((rd (ag ald t111) t112)+1))):=⟨_,rfl⟩
      replace H:(eU.l1 k2 (ald.set (t111:Int).toNat dU) (wrap64 (alk+1)) af aa)=some r:=by first|(rw [gq];with_reducible exact H)|(have ax:=(Option.bind_some _ _).symm.trans H;rw [gq];with_reducible exact ax)|(have ax:=(Option.bind_some _ _).symm.trans H;with_reducible exact ax)|with_reducible exact H|(rw [gq];exact H)|exact H
      have mK:=k0 gq
      clear gq
      obtain ⟨Mk,DG⟩:∃ y_:List (List Int),y_=(ald.set (t111:Int).toNat dU):=⟨_,rfl⟩
      replace H:(eU.l1 k2 Mk (wrap64 (alk+1)) af aa)=some r:=by first|(rw [DG];with_reducible exact H)|(have ax:=(Option.bind_some _ _).symm.trans H;rw [DG];with_reducible exact ax)|(have ax:=(Option.bind_some _ _).symm.trans H;with_reducible exact ax)|with_reducible exact H|(rw [DG];exact H)|exact H
      have V2:=k0 DG
      clear DG
      have H':=k0 H
      clear H
      have QF:wr.cell? ⟨ai,0,none⟩=some (.int .i64 af):=(av ah.out 0).trans rfl
      have QG:wr.cell? ⟨ai,1,none⟩=some (.slice au aa.length aq):=(av ah.out 1).trans rfl
      have Q0:=ale ah.out 0
      have Q1:=ale ah.out 1
      go_wp2_with (first|((with_reducible refine fo (f:=201) rfl ?_);refine fq (some 33) rfl rfl Try.func201 (by kernel_rfl) rfl #[.agg #[.int .i64 af,.slice au aa.length aq],.int .i64 alk] rfl gm ?_;(with_reducible refine (Ag.calls af _ _ aa alk t111 t112 _ ?bt ?bu qg.out).mono ?_);(case bt=>exact aC (Kd.bI alx.out HB.out));(case bu=>exact di.out);rintro e vp ⟨rfl,hb⟩;refine ⟨_,rfl,?_⟩;replace az:=k0 (Kd.jt (aS az.out) hb);replace ah:=k0 (alg (g:=ai) (o:=sO af au aa aq 31) bk hb);replace HB:=k0 (aG bl hb);(try clear hb);obtain ⟨afF,OT,Fy⟩:=Kd.qx az.out;subst Fy;have nP:0≤(t111:Int):=oD;have nR:t111 < (ald.length:Int):=oD;obtain ⟨yR,afu,Xr,e113,mV,Rq,Q_⟩:=cZ (Kd.ck az.out).2.2 t111 nP nR;cases e113;obtain ⟨agS,aaw,aai,Qg⟩:=Kd.l6 az.out [] t111 nP (by first|exact nR|exact oD|(have e_:=(Kd.ck az.out).1;omega));obtain ⟨akK,rfl,JF⟩:=aai;have Dj:=Qg 0 _ rfl;rw [Nat.add_zero,show ((Kd.slice 2 (Kd.int .i64))).sz=1 from rfl,Nat.mul_one] at Dj;replace Dj:=Option.some.inj (Dj.symm.trans mV);rw [Dj] at JF;have EO:=k0 (show Kd.R (Kd.int .i64) 2 _ _ _ _ (ag ald t111) from JF);clear Dj JF;have EW:=k0 mV;clear Qg aaw;have NL:=k0 Q_;have afR:=k0 Rq;clear Q_ Rq;replace nP:=eq_true nP;replace nR:=eq_true nR;have iH:0≤(t112:Int):=oD;have iI:t112 < ((ag ald t111).length:Int):=oD;obtain ⟨lM,e114,je⟩:=Kd.bS (by repeat (first|(with_reducible exact NL.out)|(with_reducible refine Kd.kM ?_ _)|(with_reducible refine Kd.alZ ?_ _)|(with_reducible refine Kd.j6 ?_)|exact NL.out)) t112 iH iI;cases e114;replace iH:=eq_true iH;replace iI:=eq_true iI;have uu:0≤(t112:Int):=oD;have ux:(t112:Int) < (((ag ald t111).length:Int):Int):=oD;obtain ⟨amw,yY,uS,xG,CG,OL,xb⟩:=Kd.kT EO.out (by omega);(first|cases uS|(injection uS with aW aly c_;(first|subst aW|(injection aW with aW;subst aW));subst c_;clear aly));have BQ:=k0 xG;have HF:=k0 xb;clear xG CG xb;(first|simp only [add_plain] at je|skip);obtain ⟨KZ,Ku⟩:=Kd.js 0 EO.out (t112:Int) uu ux;replace uu:=eq_true uu;replace ux:=eq_true ux;have KP:(t111:Int) < (ald.length:Int):=(by have h_:(t111:Int) < ((ald.length:Int):Int):=oD;first|exact h_|(have e_:=(Kd.ck az.out).1;omega)|simpa only [List.length_set,List.length_set] using h_);obtain ⟨S9,X0,Kg,J1,CU,Bh,CQ⟩:=Kd.yN az.out [] (t111:Int) oD (by first|exact KP|(have e_:=(Kd.ck az.out).1;omega));obtain ⟨ae_,rfl,tj⟩:=J1;have amH:=CU 0 _ rfl;rw [Nat.add_zero,show ((Kd.slice 2 (Kd.int .i64))).sz=1 from rfl,Nat.mul_one] at amH;replace amH:=Option.some.inj (amH.symm.trans EW.out);subst amH;clear CU Kg;replace tj:=(show Kd.R (Kd.int .i64) 2 _ _ _ _ (ag ald t111) from tj);have qm:=Kd.kr tj (t112:Int) (wrap64 ((rd (ag ald t111) t112)+1)))|((with_reducible refine kW (t:=2) (p:=45) rfl ?_);refine alT (t:=2) (p:=45) (v:=?afd) (w1:=(vp.setCell ⟨amw,(t112:Int).toNat,none⟩ (.int .i64 (wrap64 ((rd (ag ald t111) t112)+1))))) ?hg ?ho ?hn ?hr ?_;(case ho=>rfl);(case hg=>rfl);(case hn=>rfl);(case hr=>first|(go_simp;done)|(go_simp;rfl));intro wV hw;have hg:vp.grownBy wV (some amw):=(by rw [hw];exact qm.2);have zL:Kd.R (Kd.int .i64) 2 wV w.heap.size S9 (.slice (some ⟨amw,0,none⟩) (ag ald t111).length Xr) dU:=(by rw [hw,mK.out];exact qm.1);have dO:Kd.S (Kd.slice 2 (Kd.int .i64)) 28 wV w.heap.size (fun _=>True) (.slice (some yR) ald.length OT) Mk:=(by rw [V2.out];exact CQ hg (fun k_ e_=>by injection e_ with e_;subst e_;exact tj.1 _ rfl) (Kd.amh zL));have zB:=Kd.bx zL Bh;clear qm CQ;have aK:=k0 (dO);have alf:=k0 (jv (g:=ai) (o:=sO af au aa aq 31) bk hg (Kd.iG EO.out ah.out (by decide)));have alj:=k0 (AW hg EW.out (AX (Bh _ (tj.1 _ rfl)).2));have bw:=k0 ((by rw [hw];exact dI (HB.out) BQ.out:Below w.heap.size w wV));have bQ:=k0 (zB);have bZ:=k0 ((Kd.bn zB).2.1);clear az;clear ah;clear EW;clear HB;clear EO;have az:=aK;have ah:=alf;have EW:=alj;have HB:=bw;have af5:=bQ;have afS:=bZ;clear aK alf alj bw bQ bZ;clear hg hw dO zL zB Bh))
      go_roundg k2
      case measure=>have:=aM.out;have:=bp.out;omega
      case rel=>exact ⟨(Mk),(wrap64 (alk+1)),rs,H',⟨by have:=aM.out;have:=bp.out;omega⟩,⟨aS (az.out)⟩,⟨bk⟩,⟨bl⟩⟩
   rw [if_pos c5] at H
   have jb:=decide_eq_true c5
   clear c5
   replace H:=iS H;obtain ⟨c6,H⟩:=H
   have jk:=eq_true c6
   have Fo:=decide_eq_true c6
   clear c6
   replace H:=iS H;obtain ⟨c7,H⟩:=H
   have iz:=eq_true c7
   have AV:=decide_eq_true c7
   clear c7
   obtain ⟨jn,alC⟩:∃ y_:List Int,y_=(List.replicate (af:Int).toNat 0):=⟨_,rfl⟩
   replace H:(if bE.length < 5864062014805 then (eU.l0 k1 (bE ++ [jn]) (wrap64 (aZ+1)) af aa) else (none))=some r:=by first|(rw [alC];with_reducible exact H)|(have ax:=(Option.bind_some _ _).symm.trans H;rw [alC];with_reducible exact ax)|(have ax:=(Option.bind_some _ _).symm.trans H;with_reducible exact ax)|with_reducible exact H|(rw [alC];exact H)|exact H
   have lJ:=k0 alC
   clear alC
   replace H:=iS H;obtain ⟨c8,H⟩:=H
   have IB:=k0 c8
   clear c8
   obtain ⟨mG,ij⟩:∃ y_:List (List Int),y_=(bE ++ [jn]):=⟨_,rfl⟩
   replace H:(eU.l0 k1 mG (wrap64 (aZ+1)) af aa)=some r:=by first|(rw [ij];with_reducible exact H)|(have ax:=(Option.bind_some _ _).symm.trans H;rw [ij];with_reducible exact ax)|(have ax:=(Option.bind_some _ _).symm.trans H;with_reducible exact ax)|with_reducible exact H|(rw [ij];exact H)|exact H
   have amn:=k0 ij
   clear ij
   have H':=k0 H
   clear H
   have tC:wr.cell? ⟨ai,0,none⟩=some (.int .i64 af):=(av ah.out 0).trans rfl
   have tD:wr.cell? ⟨ai,1,none⟩=some (.slice au aa.length aq):=(av ah.out 1).trans rfl
   have amx:=ale ah.out 0
   have tH:=ale ah.out 1
   go_wp2_with (first|((with_reducible refine cy (N:=19) rfl ?_);refine Kd.yL (Kd.int .i64) _ 2 rfl (N:=19) rfl 28 _ _ rfl af rfl rfl Try.underlying28 (.int .i64 0) 8 lF rfl (by decide) (by omega) 0 (ok:=fun _=>True) (cC:=fun _=>True) rfl (fun _ hk=>hk) trivial oD (Nat.le_trans (Nat.mul_le_mul_right _ (oD:af.toNat≤35184372088832)) (by omega)) (Below.refl _ _) (Nat.le_refl _) ?_;intro gj fJ rI hb ew ey;clear ew ey;(first|rw [← lJ.out] at rI|(simp only [Int.reduceToNat] at rI;rw [← lJ.out] at rI));replace az:=k0 (Kd.qw (aS az.out) (Kd.dV rI) hb);have cO:=k0 (Kd.d_ rI (aU bl));replace ah:=k0 (alg (g:=ai) (o:=sO af au aa aq 31) bk hb);replace HB:=k0 (aG bl hb);clear hb rI;obtain ⟨vw,vW,Fx⟩:=Kd.fh cO.out;subst Fx)|((with_reducible refine pI (b:=.append) (xs:=#[.tmp 16,.tmp 20]) rfl ?_);at_builtin;refine Kd.B6 (Kd.slice 2 (Kd.int .i64)) (w0:=w) w.heap.size rfl (.tmp 16) (.tmp 20) 22 28 (.slice none 0 0) 24 rfl Try.underlying22 yb rfl (by decide) (by omega) u3 bE jn [.slice vw jn.length vW] (fun _=>True) (fun k_=>some k_=(.slice vw jn.length vW:Value).ownBlock) rfl rfl ?aP (fun k_ b8=>((Kd.bx (ok':=fun k_=>((fun _=>True)) k_∧some k_ ≠ (u3:Value).ownBlock) (Kd.pq (cO.out) (Kd.l7 az.out) (by decide)) (fun k_ hk=>⟨trivial,hk.2⟩))).1 k_ b8.symm) ?aF ?aO ?aB ?aS ?aL ?_;(case aP=>exact Kd.amh (Kd.bx (Kd.ami rfl (Kd.bx (ok':=fun k_=>((fun _=>True)) k_∧some k_ ≠ (u3:Value).ownBlock) (Kd.pq (cO.out) (Kd.l7 az.out) (by decide)) (fun k_ hk=>⟨trivial,hk.2⟩))) (fun _ h_=>h_)));(case aB=>exact bl);(case aF=>exact (fun _ _=>trivial));(case aO=>exact (by (with_reducible repeat (first|apply Kd.alN|apply Kd.ig|apply Kd.fI));exact Kd.iM az.out (fun k_ hk=>⟨trivial,fun e_=>hk.2 e_⟩)));(case aS=>exact (aU bl));(case aL=>have:=IB.out;omega);intro v109 gM ho hb hg cz;rw [← amn.out] at ho;have aK:=k0 (jv (g:=ai) (o:=sO af au aa aq 31) bk hg (Kd.ana az.out ah.out (by decide)));have alf:=k0 (hb);have alj:=k0 (ho);clear ah;clear HB;clear az;clear cO;have ah:=aK;have HB:=alf;have Al:=alj;clear aK alf alj;clear ho hb hg cz))
   go_roundg k1
   case measure=>have:=aM.out;omega
   case rel=>exact ⟨(mG),(wrap64 (aZ+1)),rs,H',⟨by have:=aM.out;omega⟩,⟨aS (Al.out)⟩,⟨bk⟩,⟨bl⟩⟩
/-! ### F177: function 177 -/
mutual
def fH.l0 : Nat → Int → Int → Int → Int → List (List Int) → Option (Int)
 | 0,_,_,_,_,_=>none
 | k+1,x1,x5,x6,bU,bN=>if x6 < (bN.length:Int) then (fH.l1 k x1 x5 x6 0 bU bN) else (some x5)
def fH.l1 : Nat → Int → Int → Int → Int → Int → List (List Int) → Option (Int)
 | 0,_,_,_,_,_,_=>none
 | k+1,x1,x5,x6,x7,bU,bN=>if x7 < 2 then (if 0≤x6 then (if x6 < (bN.length:Int) then (if 0≤x7 then (if x7 < ((ag bN x6).length:Int) then (if (rd (ag bN x6) x7)=x1 then (fH.l1 k x1 (wrap64 (x5+1)) x6 (wrap64 (x7+1)) bU bN) else (fH.l1 k x1 x5 x6 (wrap64 (x7+1)) bU bN)) else (none)) else (none)) else (none)) else (none)) else (fH.l0 k x1 x5 (wrap64 (x6+1)) bU bN)
end
def fH.f (k:Nat) (af:Int) (aa:List (List Int)) (a1:Int):Option (Int):=fH.l0 k a1 0 0 af aa
theorem fH.cj : ∀ k, (∀ y0 y1 y2 y3 y4, aj (fH.l0 k y0 y1 y2 y3 y4) (fH.l0 (k + 1) y0 y1 y2 y3 y4)) ∧ (∀ y0 y1 y2 y3 y4 y5, aj (fH.l1 k y0 y1 y2 y3 y4 y5) (fH.l1 (k + 1) y0 y1 y2 y3 y4 y5))
 | 0=>⟨fun _ _ _ _ _ r h=>by simp [fH.l0] at h,fun _ _ _ _ _ _ r h=>by simp [fH.l1] at h⟩
 | k+1=>by
  obtain ⟨ali,ih1⟩:=fH.cj k
  refine ⟨?_, ?_⟩ <;> intros <;> (first | unfold fH.l0 | unfold fH.l1) <;> repeat' first
   | (with_reducible first|exact ali _ _ _ _ _|exact ih1 _ _ _ _ _ _|exact aj.refl _|exact aj.none _|refine aj.ite ?_ ?_|refine aj.bind ?_ (fun _=>?_))
   | exact ali _ _ _ _ _|exact ih1 _ _ _ _ _ _|exact aj.none _|refine aj.ite ?_ ?_|refine aj.bind ?_ (fun _=>?_)
theorem fH.mono:∀ a0 a1 a2 k,aj (fH.f k a0 a1 a2) (fH.f (k+1) a0 a1 a2):=by
 intro a0 a1 a2 k
 obtain ⟨ali,ih1⟩:=fH.cj k
 unfold fH.f
 repeat' first
  | (with_reducible first|exact ali _ _ _ _ _|exact ih1 _ _ _ _ _ _|exact aj.refl _|exact aj.none _|refine aj.ite ?_ ?_|refine aj.bind ?_ (fun _=>?_))
  | exact ali _ _ _ _ _|exact ih1 _ _ _ _ _ _|exact aj.none _|refine aj.ite ?_ ?_|refine aj.bind ?_ (fun _=>?_)
set_option maxHeartbeats 8000000 in
set_option maxRecDepth 100000 in
theorem fH.calls (k : Nat) (af : Int) (au : Option Addr) (aq : Nat) (aa : List (List Int)) (a1 : Int) (r : Int) (w : World) (cl : Kd.C (Kd.slice 2 (Kd.int .i64)) w au aa.length aa) (cn : aa.length ≤ aq) (h : fH.f k af aa a1 = some r) :
  Calls Try.prog 177 #[.agg #[.int .i64 af,.slice au aa.length aq],.int .i64 a1] w fun e w'=>e=.returned (.int .i64 r)∧Below w.heap.size w w':=by
 have kF:=Try.underlying31
 have alx:=k0 cl
 have di:=k0 cn
 clear cl cn
 have HB:=k0 (Below.refl w.heap.size w)
 have H:(fH.l0 k a1 0 0 af aa)=some r:=h
 clear h
 have H':=k0 H
 clear H
 go_enter Try.func177,Try.ntmps177
 go_wp2_with (first|((with_reducible refine cy (N:=2) rfl ?_);refine ec ?hg (N:=2) ?hd (cs:=#[.int .i64 af,.slice au aa.length aq]) (t:=31) ?hr ?_;(case hd=>rfl);(case hg=>rfl);(case hr=>first|(go_simp;done)|(go_simp;rfl));intro ai hg w3 aJ hb;have ah:=k0 (aJ);have cr:=k0 ((by rw [hg];exact (aU bl):w.heap.size≤ai));have eL:=cr;replace HB:=k0 (aG bl hb);clear hb aJ hg))
 go_loopg [5,6] k (fun kq v5 v6 w'=>∃ (aI:Int) (gf:Int),v5=.int .i64 aI∧v6=.int .i64 gf∧ak (fH.l0 kq a1 aI gf af aa=some r)∧ak (kq≤k)∧ak (w'.heap[ai]?=some (sO af au aa aq 31))∧ak (Below w.heap.size w w'))
 case atStart=>exact ⟨(0),(0),rs,rs,H',⟨Nat.le_refl _⟩,⟨bk⟩,⟨bl⟩⟩
 case round =>
  clear H'
  obtain ⟨aI,gf,rfl,rfl,HA,aM,ah,HB⟩:=hrel
  cases gk with
  | zero=>exact absurd HA.out (by simp [fH.l0])
  | succ k1 =>
   have H:=HA.out
   clear HA
   simp only [fH.l0] at H
   by_cases c4:gf < (aa.length:Int)
   case neg =>
    rw [if_neg c4] at H
    have eV:decide (gf < (aa.length:Int))=false:=decide_eq_false c4
    clear c4
    obtain rfl:=Option.some.inj H
    have wm:wr.cell? ⟨ai,0,none⟩=some (.int .i64 af):=(av ah.out 0).trans rfl
    have wo:wr.cell? ⟨ai,1,none⟩=some (.slice au aa.length aq):=(av ah.out 1).trans rfl
    have wC:=ale ah.out 0
    have wD:=ale ah.out 1
    go_wp2
    go_ret
    exact ⟨by first|rfl|(simp [bA,bB]<;>rfl)|(simp [*,bA,bB]<;>rfl),bl⟩
   rw [if_pos c4] at H
   have eV:=decide_eq_true c4
   clear c4
   have H':=k0 H
   clear H
   have tu:wr.cell? ⟨ai,0,none⟩=some (.int .i64 af):=(av ah.out 0).trans rfl
   have tv:wr.cell? ⟨ai,1,none⟩=some (.slice au aa.length aq):=(av ah.out 1).trans rfl
   have tE:=ale ah.out 0
   have tF:=ale ah.out 1
   go_wp2
   go_loopg [5,7] k1 (fun kq v5 v7 w'=>∃ (alk:Int) (dF:Int),v5=.int .i64 alk∧v7=.int .i64 dF∧ak (fH.l1 kq a1 alk gf dF af aa=some r)∧ak (kq≤k1)∧ak (w'.heap[ai]?=some (sO af au aa aq 31))∧ak (Below w.heap.size w w'))
   case atStart=>exact ⟨(aI),(0),rs,rs,H',⟨Nat.le_refl _⟩,⟨bk⟩,⟨bl⟩⟩
   case round =>
    clear H'
    (try clear c4);(try clear eV);(try clear tu);(try clear tv);(try clear tE);(try clear tF)
    obtain ⟨alk,dF,rfl,rfl,HA,bp,ah,HB⟩:=hrel
    cases gk with
    | zero=>exact absurd HA.out (by simp [fH.l1])
    | succ k2 =>
     have H:=HA.out
     clear HA
     simp only [fH.l1] at H
     by_cases c6:dF < 2
     case neg =>
      rw [if_neg c6] at H
      have jk:decide (dF < 2)=false:=decide_eq_false c6
      clear c6
      have H':=k0 H
      clear H
      go_wp2
      go_roundg k2
      case measure=>have:=aM.out;have:=bp.out;omega
      case rel=>exact ⟨(alk),(wrap64 (gf+1)),rs,rs,H',⟨by have:=aM.out;have:=bp.out;omega⟩,⟨bk⟩,⟨bl⟩⟩
     rw [if_pos c6] at H
     have jk:=decide_eq_true c6
     clear c6
     replace H:=iS H;obtain ⟨c7,H⟩:=H
     have iz:=decide_eq_true c7
     clear c7
     replace H:=iS H;obtain ⟨c8,H⟩:=H
     have jw:=decide_eq_true c8
     clear c8
     replace H:=iS H;obtain ⟨c9,H⟩:=H
     have mg:=decide_eq_true c9
     clear c9
     replace H:=iS H;obtain ⟨c10,H⟩:=H
     have lA:=decide_eq_true c10
     clear c10
     by_cases c11:(rd (ag aa gf) dF)=a1
     case neg =>
      rw [if_neg c11] at H
      have l_:((rd (ag aa gf) dF) == a1)=false:=beq_eq_false_iff_ne.mpr c11
      have amo:((rd (ag aa gf) dF) != a1)=true:=bne_iff_ne.mpr c11
      have H':=k0 H
      clear H
      have QB:wr.cell? ⟨ai,0,none⟩=some (.int .i64 af):=(av ah.out 0).trans rfl
      have QC:wr.cell? ⟨ai,1,none⟩=some (.slice au aa.length aq):=(av ah.out 1).trans rfl
      have QW:=ale ah.out 0
      have QX:=ale ah.out 1
      have eR:0≤(gf:Int):=oD
      have eS:gf < (aa.length:Int):=oD
      obtain ⟨rj,vt,vN,e102,jd,jz,jx⟩:=cZ alx.out gf eR eS
      cases e102
      replace jd:=hbc HB jd
      have jq:=k0 jx
      have pR:=k0 jz
      clear jx jz
      replace eR:=eq_true eR
      replace eS:=eq_true eS
      have dQ:0≤(dF:Int):=oD
      have dR:dF < ((ag aa gf).length:Int):=oD
      obtain ⟨ji,e103,en⟩:=Kd.bS jq.out dF dQ dR
      cases e103
      replace en:=hbc HB en
      replace dQ:=eq_true dQ
      replace dR:=eq_true dR
      go_wp2
      go_roundg k2
      case measure=>have:=aM.out;have:=bp.out;omega
      case rel=>exact ⟨(alk),(wrap64 (dF+1)),rs,rs,H',⟨by have:=aM.out;have:=bp.out;omega⟩,⟨bk⟩,⟨bl⟩⟩
     rw [if_pos c11] at H
     have l_:((rd (ag aa gf) dF) == a1)=true:=beq_iff_eq.mpr c11
     have amo:((rd (ag aa gf) dF) != a1)=false:=bne_eq_false_iff_eq.mpr c11
     clear c11
     have H':=k0 H
     clear H
     have ahM:wr.cell? ⟨ai,0,none⟩=some (.int .i64 af):=(av ah.out 0).trans rfl
     have ahN:wr.cell? ⟨ai,1,none⟩=some (.slice au aa.length aq):=(av ah.out 1).trans rfl
     have aii:=ale ah.out 0
     have aij:=ale ah.out 1
     have eR:0≤(gf:Int):=oD
     have eS:gf < (aa.length:Int):=oD
     obtain ⟨rj,vt,vN,e102,jd,jz,jx⟩:=cZ alx.out gf eR eS
     cases e102
     replace jd:=hbc HB jd
     have jq:=k0 jx
     have pR:=k0 jz
     clear jx jz
     replace eR:=eq_true eR
     replace eS:=eq_true eS
     have dQ:0≤(dF:Int):=oD
     have dR:dF < ((ag aa gf).length:Int):=oD
     obtain ⟨ji,e103,en⟩:=Kd.bS jq.out dF dQ dR
     cases e103
     replace en:=hbc HB en
     replace dQ:=eq_true dQ
     replace dR:=eq_true dR
     go_wp2
     go_roundg k2
     case measure=>have:=aM.out;have:=bp.out;omega
     case rel=>exact ⟨(wrap64 (alk+1)),(wrap64 (dF+1)),rs,rs,H',⟨by have:=aM.out;have:=bp.out;omega⟩,⟨bk⟩,⟨bl⟩⟩
end Go.Proofs.Ytoebojnhchocaaa.B
/- Set with little white space, by a program. -/
