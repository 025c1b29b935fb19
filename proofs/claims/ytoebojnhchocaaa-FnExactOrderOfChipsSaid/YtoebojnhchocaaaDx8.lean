/- The functions that one law reaches, each as a Lean function, and that Go's call comes to what it says. Condition of each: that the Lean function answers (is not none). -/
import Derived.Test.YtoebojnhchocaaaDx0
import Derived.Test.YtoebojnhchocaaaDx4
import Derived.Test.YtoebojnhchocaaaDx5
import Derived.Test.YtoebojnhchocaaaDx6
import Derived.Test.YtoebojnhchocaaaDx7
namespace Go.Proofs.Ytoebojnhchocaaa.D
open Go.RowKit Go.Proofs.bR.eC Go.Proofs.bR.je Go.Proofs.bR.jO
attribute [local go_sem] max2_int min2_int max_two min_two max_three min_three max_four min_four   -- for this text's walks alone
set_option linter.unusedVariables false
set_option linter.unusedSimpArgs false
/-! ### F90: function 90 -/
def bS.sK (ds o:List Int) (d:Int) (n:Nat):Bool:=(List.range n).any fun v=>rd ds (v:Int) == d && decide (rd o (v:Int) < 0)
def bS.oH (ds:List Int) (d:Int) (n:Nat):List Bool:=(List.range 8).map fun v=>decide (v < n) && decide (rd ds (v:Int) < d)
theorem bS.Yv (ds o:List Int) (d:Int) (n:Nat):bS.sK ds o d (n+1)=(bS.sK ds o d n || (rd ds (n:Int) == d && decide (rd o (n:Int) < 0))):=by
 unfold bS.sK
 rw [List.range_succ,List.any_append]
 simp
theorem bS.L5 (ds:List Int) (d:Int) (n:Nat):(bS.oH ds d n).length=8:=by simp [bS.oH]
theorem bS.aeC (ds:List Int) (d:Int):bS.oH ds d 0=List.replicate 8 false:=by
 unfold bS.oH
 rw [List.map_congr_left (g:=fun _=>false) (fun v _=>by simp)]
 rfl
theorem bS.aeB (ds:List Int) (d:Int) (n:Nat) (h:n < 8):(bS.oH ds d n).set n (decide (rd ds (n:Int) < d))=bS.oH ds d (n+1):=by
 apply List.ext_getElem
 ·simp [bS.oH]
 ·intro j h1 h2
  rw [List.getElem_set]
  have hj:j < 8:=by simpa [bS.oH] using h1
  by_cases e:n=j
  case neg =>
   rw [if_neg e]
   simp only [bS.oH,List.getElem_map,List.getElem_range]
   rw [show decide (j < n+1)=decide (j < n) from decide_eq_decide.2 ⟨fun _=>by omega,fun _=>by omega⟩]
  subst e
  rw [if_pos rfl]
  simp [bS.oH]
theorem bS.Jz (l:List Bool) (h:l.length=8):∃ b0 b1 b2 b3 b4 b5 b6 b7:Bool,l=[b0,b1,b2,b3,b4,b5,b6,b7]:=by
 match l,h with
 | [b0,b1,b2,b3,b4,b5,b6,b7],_=>exact ⟨b0,b1,b2,b3,b4,b5,b6,b7,rfl⟩
mutual
def bS.l0 : Nat → List (List Int) → Int → List Int → List Int → Int → Option (List Int)
 | 0,_,_,_,_,_=>none
 | k+1,x0,x2,x7,x8,x9=>if x9 > 0 then (bS.l1 k x0 x2 x7 x8 x9) else (bS.l2 k x0 x2 x7)
def bS.l1 : Nat → List (List Int) → Int → List Int → List Int → Int → Option (List Int)
 | 0,_,_,_,_,_=>none
 | k+1,x0,x2,x7,x8,x9=>if (x0.length≤8∧x8.length=x0.length∧x7.length=x0.length) then (if bS.sK x8 x7 x9 x0.length=true then ((cW.fA k x0 x7 (bS.oH x8 x9 x0.length) 1).bind fun t=>bS.l1 k x0 x2 t x8 x9) else (bS.l0 k x0 x2 x7 x8 (wrap64 (x9 - 1)))) else none
def bS.l2 : Nat → List (List Int) → Int → List Int → Option (List Int)
 | 0,_,_,_=>none
 | k+1,x0,x2,x7=>(bG.fA k x0 x7 x2).bind fun p=>if p.2=true then ((cW.fA k x0 x7 p.1 1).bind fun t=>bS.l2 k x0 x2 t) else some x7
end
def bS.f (k:Nat) (l0:List (List Int)) (l1:List Int) (a2:Int):Option (List Int):=(p5.f l1).bind fun t=>(als.f k l0 a2).bind fun u=>bS.l0 k l0 a2 t u (l0.length:Int)
theorem bS.bU : ∀ k, (∀ y0 y1 y2 y3 y4, aj (bS.l0 k y0 y1 y2 y3 y4) (bS.l0 (k + 1) y0 y1 y2 y3 y4)) ∧ (∀ y0 y1 y2 y3 y4, aj (bS.l1 k y0 y1 y2 y3 y4) (bS.l1 (k + 1) y0 y1 y2 y3 y4)) ∧ (∀ y0 y1 y2, aj (bS.l2 k y0 y1 y2) (bS.l2 (k + 1) y0 y1 y2))
 | 0=>⟨fun _ _ _ _ _ r h=>by simp [bS.l0] at h,fun _ _ _ _ _ r h=>by simp [bS.l1] at h,fun _ _ _ r h=>by simp [bS.l2] at h⟩
 | k+1=>by
  obtain ⟨alg,ih1,ih2⟩:=bS.bU k
  refine ⟨?_,?_,?_⟩
  ·intro y0 y1 y2 y3 y4;unfold bS.l0;exact aj.ite (ih1 _ _ _ _ _) (ih2 _ _ _)
  ·intro y0 y1 y2 y3 y4;unfold bS.l1;exact aj.ite (aj.ite (aj.bind (cW.Br _ _ _ _ _) (fun _=>ih1 _ _ _ _ _)) (alg _ _ _ _ _)) (aj.none _)
  ·intro y0 y1 y2;unfold bS.l2;exact aj.bind (bG.Br _ _ _ _) (fun _=>aj.ite (aj.bind (cW.Br _ _ _ _ _) (fun _=>ih2 _ _ _)) (aj.refl _))
theorem bS.mono:∀ a0 a1 a2 k,aj (bS.f k a0 a1 a2) (bS.f (k+1) a0 a1 a2):=by
 intro a0 a1 a2 k
 unfold bS.f
 exact aj.bind (aj.refl _) (fun _=>aj.bind (als.mono _ _ _) (fun _=>(bS.bU k).1 _ _ _ _ _))
set_option maxHeartbeats 8000000 in
set_option maxRecDepth 100000 in
theorem bS.calls (k : Nat) (A0 : Option Addr) (c0 : Nat) (l0 : List (List Int)) (A1 : Option Addr) (c1 : Nat) (l1 : List Int) (a2 : Int) (r : List Int) (w : World) (cS : Kd.C (Kd.slice 2 (Kd.int .i64)) w A0 l0.length l0) (hc0 : l0.length ≤ c0) (c_ : Kd.C (Kd.int .i64) w A1 l1.length l1) (eY : l1.length ≤ c1) (h : bS.f k l0 l1 a2 = some r) :
  Calls Try.prog 90 #[.slice A0 l0.length c0,.slice A1 l1.length c1,.int .i64 a2] w fun e w'=>∃ dH:Value,e=.returned (dH)∧Kd.R (Kd.int .i64) 2 w' w.heap.size (fun _=>True) dH r∧Below w.heap.size w w':=by
 have fe:=k0 cS
 have alR:=k0 hc0
 have eP:=k0 c_
 have kT:=k0 eY
 have hlen:l0.length≤9223372036854775807:=cS.2.1
 clear cS hc0 c_ eY
 unfold bS.f at h
 obtain ⟨t,ht,h⟩:=Option.bind_eq_some_iff.mp h
 obtain ⟨ds,hds,h⟩:=Option.bind_eq_some_iff.mp h
 have H':=k0 h
 have AT:=k0 ht
 have AD:=k0 hds
 clear h ht hds
 go_enter Try.func90,Try.ntmps90
 go_wp2_with (first
  | (go_at_call 173;refine (p5.calls A1 c1 l1 t _ eP.out kT.out AT.out).mono ?_;rintro e w1 ⟨v1,rfl,vQ,hb1⟩;have HO:=k0 vQ;have HB:=k0 hb1;clear vQ hb1)
  | (go_at_call 174;refine (als.calls k A0 c0 l0 a2 ds _ (Kd.bK fe.out HB.out) alR.out AD.out).mono ?_;rintro e w2 ⟨v2,rfl,qz,hb2⟩;obtain ⟨Ad,cd,ed⟩:=Kd.eF qz;subst ed;have E7:=k0 (Kd.en HO.out hb2);have amT:=k0 (aI HB.out hb2);have U7:=k0 (Kd.bx qz).2.2;have HDN:=k0 (Kd.bx qz).2.1;clear qz hb2 HO HB))
 go_loopg [7,9] k (fun kq v7 v9 w'=>∃ (o:List Int) (d:Int),v9=.int .i64 d∧au (bS.l0 kq l0 a2 o ds d=some r)∧au (kq≤k)∧au (Kd.R (Kd.int .i64) 2 w' w.heap.size (fun _=>True) v7 o)∧au (Below w2.heap.size w2 w'))
 case atStart=>exact ⟨t,l0.length,rfl,H',⟨Nat.le_refl _⟩,E7,⟨Below.refl _ _⟩⟩
 case round =>
  clear H' E7
  obtain ⟨o,d,rfl,HA,alj,HO,HB⟩:=hrel
  cases gk with
  | zero=>exact absurd HA.out (by simp [bS.l0])
  | succ k1 =>
   have H:=HA.out
   clear HA
   simp only [bS.l0] at H
   by_cases Ay:d > 0
   case neg =>
    rw [if_neg Ay] at H
    have Jc:decide (0 < d)=false:=decide_eq_false Ay
    have H':=k0 H
    clear H Ay
    go_wp2
    go_loopg [7] k1 (fun kq v7 w'=>∃ (o:List Int),au (bS.l2 kq l0 a2 o=some r)∧au (kq≤k1)∧au (Kd.R (Kd.int .i64) 2 w' w.heap.size (fun _=>True) v7 o)∧au (Below w2.heap.size w2 w'))
    case atStart=>exact ⟨o,H',⟨Nat.le_refl _⟩,HO,HB⟩
    case round =>
     clear H' HO HB
     obtain ⟨o,HA,bB,HO,HB⟩:=hrel
     cases gk with
     | zero=>exact absurd HA.out (by simp [bS.l2])
     | succ k2 =>
      have H:=HA.out
      clear HA
      simp only [bS.l2] at H
      obtain ⟨⟨p1,p2⟩,hp,H⟩:=Option.bind_eq_some_iff.mp H
      have AB:=k0 hp
      have EV:=k0 H
      clear hp H
      obtain ⟨Ao,co,eo⟩:=Kd.eF HO.out
      subst eo
      cases p2 with
      | false =>
       have h3:=EV.out
       simp only [Bool.false_eq_true,if_false,Option.some.injEq] at h3
       subst h3
       clear EV
       go_wp2_with (go_at_call 176;refine (bG.yu k2 A0 c0 l0 Ao co o a2 p1 false _ (Kd.bK (Kd.bK fe.out amT.out) HB.out) alR.out (Kd.bx HO.out).2.2 (Kd.bx HO.out).2.1 AB.out).mono ?_;rintro e wb ⟨⟨rfl,Dk⟩,ux⟩;obtain ⟨b0,b1,b2,b3,b4,b5,b6,b7,rfl⟩:=bS.Jz _ Dk;have amS:=k0 (dh (aI HB.out ux) (.cells #[.bool b0,.bool b1,.bool b2,.bool b3,.bool b4,.bool b5,.bool b6,.bool b7] 133 (0,0)));have E8:=k0 (Kd.bH (Kd.en HO.out ux) (.cells #[.bool b0,.bool b1,.bool b2,.bool b3,.bool b4,.bool b5,.bool b6,.bool b7] 133 (0,0)));clear ux Dk;simp only [List.map_cons,List.map_nil])
       go_ret
       exact ⟨_,rfl,E8.out,aI amT.out amS.out⟩
      | true =>
       have h3:=EV.out
       simp only [if_true] at h3
       obtain ⟨t',ht',h4⟩:=Option.bind_eq_some_iff.mp h3
       have H':=k0 h4
       have AF:=k0 ht'
       clear h3 h4 ht' EV
       go_wp2_with (first|(go_at_call 176;refine (bG.yu k2 A0 c0 l0 Ao co o a2 p1 true _ (Kd.bK (Kd.bK fe.out amT.out) HB.out) alR.out (Kd.bx HO.out).2.2 (Kd.bx HO.out).2.1 AB.out).mono ?_;rintro e wb ⟨⟨rfl,Dk⟩,ux⟩;obtain ⟨b0,b1,b2,b3,b4,b5,b6,b7,rfl⟩:=bS.Jz _ Dk;have amS:=k0 (dh (aI HB.out ux) (.cells #[.bool b0,.bool b1,.bool b2,.bool b3,.bool b4,.bool b5,.bool b6,.bool b7] 133 (0,0)));have E8:=k0 (Kd.bH (Kd.en HO.out ux) (.cells #[.bool b0,.bool b1,.bool b2,.bool b3,.bool b4,.bool b5,.bool b6,.bool b7] 133 (0,0)));clear ux Dk;simp only [List.map_cons,List.map_nil])|(go_at_call 175;refine (cW.yu k2 A0 c0 l0 Ao co o [b0,b1,b2,b3,b4,b5,b6,b7] 1 t' _ (Kd.bK (Kd.bK fe.out amT.out) amS.out) alR.out (Kd.bx E8.out).2.2 (Kd.bx E8.out).2.1 rfl AF.out).mono ?_;rintro e wf ⟨vf,rfl,Ds,CX⟩;have H_:=k0 (Kd.dI (Kd.alq Ds (fun _ _=>trivial)) (alk (aI amT.out amS.out)));have HN:=k0 (aI amS.out CX);clear Ds CX))
       go_roundg k2
       case measure=>have fq:=bB.out;omega
       case rel=>exact ⟨t',H',⟨by have gC:=bB.out;omega⟩,H_,HN⟩
   rw [if_pos Ay] at H
   have Jc:=decide_eq_true Ay
   have H':=k0 H
   clear H Ay
   go_wp2
   go_loopg [7] k1 (fun kq v7 w'=>∃ (o:List Int),au (bS.l1 kq l0 a2 o ds d=some r)∧au (kq≤k1)∧au (Kd.R (Kd.int .i64) 2 w' w.heap.size (fun _=>True) v7 o)∧au (Below w2.heap.size w2 w'))
   case atStart=>exact ⟨o,H',⟨Nat.le_refl _⟩,HO,HB⟩
   case round =>
    clear H' HO HB
    obtain ⟨o,HA,bB,HO,HB⟩:=hrel
    cases gk with
    | zero=>exact absurd HA.out (by simp [bS.l1])
    | succ k2 =>
     have H:=HA.out
     clear HA
     simp only [bS.l1] at H
     replace H:=iS H;obtain ⟨cg,H⟩:=H
     have HG:=k0 cg
     have H':=k0 H
     clear H cg
     obtain ⟨Ao,co,eo⟩:=Kd.eF HO.out
     subst eo
     obtain ⟨gS,FY⟩:∃ gS,gS=wr.heap.size:=⟨_,rfl⟩
     have F8:=Tb (P:=Try.prog) (w:=wr.alloc (.cells #[.bool false,.bool false,.bool false,.bool false,.bool false,.bool false,.bool false,.bool false] 133)) (g:=wr.heap.size) (o:=0) 133 (.agg #[.bool false,.bool false,.bool false,.bool false,.bool false,.bool false,.bool false,.bool false]) [.bool false,.bool false,.bool false,.bool false,.bool false,.bool false,.bool false,.bool false] (heap_alloc_new wr _) rfl (by kernel_rfl) (by simp) (by simp [Value.oneCell'])
     have NN:=k0 F8
     clear F8
     go_wp2_with ((with_reducible refine lF (t:=133) (p:=11) rfl ?_);refine lJ (t:=133) (p:=11) (v:=?afo) (w1:=(wr.alloc (.cells #[.bool false,.bool false,.bool false,.bool false,.bool false,.bool false,.bool false,.bool false] 133)).setCells wr.heap.size 0 [.bool false,.bool false,.bool false,.bool false,.bool false,.bool false,.bool false,.bool false]) ?hg ?ho ?hn ?hr ?_;(case ho=>rfl);(case hg=>rfl);(case hn=>rfl);(case hr=>(unfold execOp;dsimp only;(show Sem.run Try.prog (do Instr.storeAt 133 (Value.pointer (some ⟨wr.heap.size,0,none⟩)) (.agg #[.bool false,.bool false,.bool false,.bool false,.bool false,.bool false,.bool false,.bool false]);pure Next.skip) (wr.alloc (.cells #[.bool false,.bool false,.bool false,.bool false,.bool false,.bool false,.bool false,.bool false] 133))=_);rw [Sem.run_bind,NN.out];rfl));intro wz RU;have HW:=k0 RU;clear RU)
     obtain ⟨FB,xg,Qi,FQ⟩:=uP [.bool false,.bool false,.bool false,.bool false,.bool false,.bool false,.bool false,.bool false] 0 (wr.alloc (.cells #[.bool false,.bool false,.bool false,.bool false,.bool false,.bool false,.bool false,.bool false] 133)) _ (heap_alloc_new wr _) (by simp)
     have FR:FB=((bS.oH ds d 0).map Value.bool).toArray:=Array.toList_inj.1 (by rw [FQ,bS.aeC];rfl)
     rw [FR] at xg
     have AV:Below wr.heap.size wr ((wr.alloc (.cells #[.bool false,.bool false,.bool false,.bool false,.bool false,.bool false,.bool false,.bool false] 133)).setCells wr.heap.size 0 [.bool false,.bool false,.bool false,.bool false,.bool false,.bool false,.bool false,.bool false]):=by
      have xy:=Nat.le_refl wr.heap.size
      simp only [World.setCells]
      exact dJ (dJ (dJ (dJ (dJ (dJ (dJ (dJ (dh (Below.refl _ wr) _) xy) xy) xy) xy) xy) xy) xy) xy
     rw [← HW.out] at xg AV
     have BK:=k0 xg
     have BB:=k0 AV
     clear HW NN xg FQ FR Qi FB AV
     rw [← FY] at BK ⊢
     obtain ⟨wA,RT⟩:∃ wA,wA=wr:=⟨_,rfl⟩
     rw [← RT] at BB FY HB HO
     have U':=k0 FY
     clear FY RT
     have aiR:l0.length≤8:=HG.out.1
     go_loopw [10,12] (fun v10 i wq=>∃ k':Nat,k'≤l0.length∧i=.int .i64 k'∧v10=.bool (bS.sK ds o d k')∧au (wq.heap[gS]?=some (.cells ((bS.oH ds d k').map Value.bool).toArray 133 (0,0)))∧au (Below wA.heap.size wA wq)) (fun _ i _=>l0.length - (intOf i).toNat)
     case atStart=>exact ⟨0,Nat.zero_le _,rfl,rfl,BK,BB⟩
     case round =>
      clear BK BB
      obtain ⟨k',hk,rfl,rfl,BK,BB⟩:=hrel
      by_cases hlt:k' < l0.length
      case neg =>
       obtain rfl:k'=l0.length:=by omega
       have Rm:decide ((l0.length:Int) < (l0.length:Int))=false:=by simp
       have zV:=k0 (aI HB.out BB.out)
       have HOr:=k0 (Kd.en HO.out BB.out)
       have H:=H'.out
       clear H' hlt
       cases hbd:bS.sK ds o d l0.length with
       | false =>
        rw [hbd] at H
        simp only [Bool.false_eq_true,if_false] at H
        have H':=k0 H
        clear H
        go_wp2
        go_roundg k2
        case measure=>have fq:=bB.out;omega
        case rel=>exact ⟨o,wrap64 (d - 1),rs,H',⟨by have fq:=alj.out;have gC:=bB.out;omega⟩,HOr,zV⟩
       | true =>
        rw [hbd] at H
        simp only [if_true] at H
        obtain ⟨t',ht',H⟩:=Option.bind_eq_some_iff.mp H
        have H':=k0 H
        have AF:=k0 ht'
        clear H ht'
        obtain ⟨b0,b1,b2,b3,b4,b5,b6,b7,Qh⟩:=bS.Jz _ (bS.L5 ds d l0.length)
        rw [Qh] at BK AF
        have q0:wr.cell? ⟨gS,0,none⟩=some (.bool b0):=(av BK.out 0).trans rfl
        have q1:wr.cell? ⟨gS,1,none⟩=some (.bool b1):=(av BK.out 1).trans rfl
        have q2:wr.cell? ⟨gS,2,none⟩=some (.bool b2):=(av BK.out 2).trans rfl
        have q3:wr.cell? ⟨gS,3,none⟩=some (.bool b3):=(av BK.out 3).trans rfl
        have q4:wr.cell? ⟨gS,4,none⟩=some (.bool b4):=(av BK.out 4).trans rfl
        have q5:wr.cell? ⟨gS,5,none⟩=some (.bool b5):=(av BK.out 5).trans rfl
        have q6:wr.cell? ⟨gS,6,none⟩=some (.bool b6):=(av BK.out 6).trans rfl
        have q7:wr.cell? ⟨gS,7,none⟩=some (.bool b7):=(av BK.out 7).trans rfl
        clear Qh
        go_wp2_with (go_at_call 175;refine (cW.yu k2 A0 c0 l0 (Ao) co o [b0,b1,b2,b3,b4,b5,b6,b7] 1 t' _ (Kd.bK (Kd.bK fe.out amT.out) zV.out) alR.out (Kd.bx HOr.out).2.2 (Kd.bx HOr.out).2.1 rfl AF.out).mono ?_;rintro e wf ⟨vf,rfl,Ds,CX⟩;have H_:=k0 (Kd.alq Ds (fun _ _=>trivial));have HN:=k0 (aI zV.out CX);clear Ds CX)
        go_roundg k2
        case measure=>have fq:=bB.out;omega
        case rel=>exact ⟨t',H',⟨by have gC:=bB.out;omega⟩,⟨Kd.dI H_.out (alk (aI amT.out zV.out))⟩,HN⟩
      have zV:Below w2.heap.size w2 wr:=aI HB.out BB.out
      obtain ⟨ad,e,hcd⟩:=Kd.bJ (Kd.bK U7.out zV) k' (by omega) (by have h_:=HG.out.2.1;omega)
      cases e
      obtain ⟨ao,e,FT⟩:=Kd.bJ (Kd.bK (Kd.bx HO.out).2.2 BB.out) k' (by omega) (by have h_:=HG.out.2.2;omega)
      cases e
      rw [Int.toNat_natCast] at hcd FT
      have KU:k' < 8:=by omega
      have hq:wr.cell? ⟨gS,k',none⟩=some (.bool ((bS.oH ds d k').getD k' false)):=by
       rw [av BK.out k',List.getD_eq_getElem?_getD,List.getElem?_eq_getElem (by rw [bS.L5];exact KU)]
       simp [bS.L5,KU]
      have hf:wr.frozen? ⟨gS,k',none⟩=false:=aD BK.out k'
      have hS:∀ W,W=wr.setCell ⟨gS,k',none⟩ (.bool (decide (rd ds k' < d)))→au (W.heap[gS]?=some (.cells ((bS.oH ds d (k'+1)).map Value.bool).toArray 133 (0,0))):=by
       intro W hW
       subst hW
       exact ⟨by rw [Fp BK.out k' (Value.bool (decide (rd ds k' < d))),← bS.aeB ds d k' KU];simp [List.map_set]⟩
      have ZJ:au (Below wA.heap.size wA (wr.setCell ⟨gS,k',none⟩ (.bool (decide (rd ds k' < d))))):=⟨dJ BB.out (Nat.le_of_eq U'.out.symm)⟩
      have hS:=hS _ rfl
      have hkd:k' < ds.length:=by have h_:=HG.out.2.1;omega
      have hko:k' < o.length:=by have h_:=HG.out.2.2;omega
      have hdn:=bS.Yv ds o d k'
      have Rm:decide ((k':Int) < (l0.length:Int))=true:=decide_eq_true (by omega)
      cases hbd:bS.sK ds o d k'<;>cases hbe:(rd ds k' == d)<;>cases hbn:decide (rd o k' < 0)<;>simp only [hbd,hbe,hbn,Bool.or_true,Bool.or_false,Bool.true_and,Bool.false_and,Bool.and_true,Bool.and_false,Bool.true_or,Bool.false_or] at hdn
      all_goals (
       go_wp2_with fail
       go_roundw
       case rel=>exact ⟨k'+1,by omega,by go_num,by rw [hdn],hS,ZJ⟩
       case measure=>simp [intOf];omega)
/-! ### F201: function 201 -/
def zU.f (af:Int) (aa:List (List Int)) (a1:Int):Option (Int × Int):=if 0≤(wrap64 (Int.tdiv a1 2)) then (if (wrap64 (Int.tdiv a1 2)) < (aa.length:Int) then (if (Int.tmod a1 2)=1 then (if 1 < ((ah aa (wrap64 (Int.tdiv a1 2))).length:Int) then (if 0 < ((ah aa (wrap64 (Int.tdiv a1 2))).length:Int) then (some (rd (ah aa (wrap64 (Int.tdiv a1 2))) 1,rd (ah aa (wrap64 (Int.tdiv a1 2))) 0)) else (none)) else (none)) else (if 0 < ((ah aa (wrap64 (Int.tdiv a1 2))).length:Int) then (if 1 < ((ah aa (wrap64 (Int.tdiv a1 2))).length:Int) then (some (rd (ah aa (wrap64 (Int.tdiv a1 2))) 0,rd (ah aa (wrap64 (Int.tdiv a1 2))) 1)) else (none)) else (none))) else (none)) else (none)
set_option maxHeartbeats 8000000 in
set_option maxRecDepth 100000 in
theorem zU.calls (af : Int) (aq : Option Addr) (ak : Nat) (aa : List (List Int)) (a1 : Int) (r1 : Int) (r2 : Int) (w : World) (aly : Kd.C (Kd.slice 2 (Kd.int .i64)) w aq aa.length aa) (ck : aa.length ≤ ak) (h : zU.f af aa a1 = some (r1, r2)) :
  Calls Try.prog 201 #[.agg #[.int .i64 af,.slice aq aa.length ak],.int .i64 a1] w fun e w'=>e=.returned (.tuple #[.int .i64 r1,.int .i64 r2])∧Below w.heap.size w w':=by
 have j9:=Try.underlying31
 have bZ:=k0 aly
 have cD:=k0 ck
 clear aly ck
 have HB:=k0 (Below.refl w.heap.size w)
 have H:(if 0≤(wrap64 (Int.tdiv a1 2)) then (if (wrap64 (Int.tdiv a1 2)) < (aa.length:Int) then (if (Int.tmod a1 2)=1 then (if 1 < ((ah aa (wrap64 (Int.tdiv a1 2))).length:Int) then (if 0 < ((ah aa (wrap64 (Int.tdiv a1 2))).length:Int) then (some (rd (ah aa (wrap64 (Int.tdiv a1 2))) 1,rd (ah aa (wrap64 (Int.tdiv a1 2))) 0)) else (none)) else (none)) else (if 0 < ((ah aa (wrap64 (Int.tdiv a1 2))).length:Int) then (if 1 < ((ah aa (wrap64 (Int.tdiv a1 2))).length:Int) then (some (rd (ah aa (wrap64 (Int.tdiv a1 2))) 0,rd (ah aa (wrap64 (Int.tdiv a1 2))) 1)) else (none)) else (none))) else (none)) else (none))=some (r1,r2):=h
 clear h
 obtain ⟨alA,Dj⟩:∃ j_:Int,(wrap64 (Int.tdiv a1 2))=j_:=⟨_,rfl⟩
 replace H:(if 0≤(alA) then (if (alA) < (aa.length:Int) then (if (Int.tmod a1 2)=1 then (if 1 < ((ah aa (alA)).length:Int) then (if 0 < ((ah aa (alA)).length:Int) then (some (rd (ah aa (alA)) 1,rd (ah aa (alA)) 0)) else (none)) else (none)) else (if 0 < ((ah aa (alA)).length:Int) then (if 1 < ((ah aa (alA)).length:Int) then (some (rd (ah aa (alA)) 0,rd (ah aa (alA)) 1)) else (none)) else (none))) else (none)) else (none))=some (r1,r2):=by first|(rw [Dj] at H;exact H)|(simp only [Dj] at H ⊢;exact H)
 have aiM:(IntKind.i64.wrap (Int.tdiv a1 2))=alA:=(cl _).trans Dj
 replace H:=iS H;obtain ⟨c4,H⟩:=H
 have eD:=decide_eq_true c4
 clear c4
 replace H:=iS H;obtain ⟨c5,H⟩:=H
 have alS:=decide_eq_true c5
 clear c5
 by_cases c6:(Int.tmod a1 2)=1
 case neg =>
  rw [if_neg c6] at H
  have gB:((Int.tmod a1 2) == 1)=false:=beq_eq_false_iff_ne.mpr c6
  have wY:((Int.tmod a1 2) != 1)=true:=bne_iff_ne.mpr c6
  replace H:=iS H;obtain ⟨c11,H⟩:=H
  have i_:=decide_eq_true c11
  have oc:decide (0 < (ah aa (alA)).length)=true:=decide_eq_true (by omega)
  clear c11
  replace H:=iS H;obtain ⟨c12,H⟩:=H
  have rN:=decide_eq_true c12
  have Av:decide (1 < (ah aa (alA)).length)=true:=decide_eq_true (by omega)
  clear c12
  simp only [Option.some.injEq,Prod.mk.injEq] at H
  obtain ⟨rfl,rfl⟩:=H
  go_enter Try.func201,Try.ntmps201
  go_wp2_with (first|((with_reducible refine cj (N:=2) rfl ?_);refine dK ?hg (N:=2) ?hd (cs:=#[.int .i64 af,.slice aq aa.length ak]) (t:=31) ?hr ?_;(case hd=>rfl);(case hg=>rfl);(case hr=>first|(go_simp;done)|(go_simp;rfl));intro ai hg pq aJ hb;have ag:=k0 (aJ);have b8:=k0 ((by rw [hg];exact (alk bl):w.heap.size≤ai));have eB:=b8;replace HB:=k0 (aI bl hb);clear hb aJ hg;have xj:pq.cell? ⟨ai,0,none⟩=some (.int .i64 af):=(av ag.out 0).trans rfl;have xk:pq.cell? ⟨ai,1,none⟩=some (.slice aq aa.length ak):=(av ag.out 1).trans rfl;have xq:=aD ag.out 0;have xu:=aD ag.out 1;have dX:0≤((alA):Int):=oD;have dY:(alA) < (aa.length:Int):=oD;obtain ⟨pG,uT,vu,e102,iw,jm,jk⟩:=cX bZ.out (alA) dX dY;cases e102;replace iw:=hbc HB iw;have jc:=k0 jk;have pE:=k0 jm;clear jk jm;replace dX:=eq_true dX;replace dY:=eq_true dY;have alz:0≤(0:Int):=(by omega);have cV:0 < ((ah aa (alA)).length:Int):=oD;obtain ⟨kG,e105,dW⟩:=Kd.bJ jc.out 0 alz cV;cases e105;have Ep:(0 < (ah aa (alA)).length)=True:=eq_true (by omega);(try rw [show ((0:Int)).toNat=0 from rfl] at dW);(try rw [Addr.add_zero'] at dW);replace dW:=hbc HB dW;replace alz:=eq_true alz;replace cV:=eq_true cV;have dM:0≤(1:Int):=(by omega);have dD:1 < ((ah aa (alA)).length:Int):=oD;obtain ⟨gA,e106,dA⟩:=Kd.bJ jc.out 1 dM dD;obtain rfl:kG=gA:=(by injection e106);(try simp only [show (1:Int).toNat=1 from rfl,Nat.reduceMul,Nat.reduceEqDiff,Go.Addr.add,↓reduceIte] at dA);have Bu:(1 < (ah aa (alA)).length)=True:=eq_true (by omega);(try rw [show ((1:Int)).toNat=1 from rfl] at dA);replace dA:=hbc HB dA;replace dM:=eq_true dM;replace dD:=eq_true dD))
  repeat (go_quiet (first|((with_reducible refine cj (N:=2) rfl ?_);refine dK ?hg (N:=2) ?hd (cs:=#[.int .i64 af,.slice aq aa.length ak]) (t:=31) ?hr ?_;(case hd=>rfl);(case hg=>rfl);(case hr=>first|(go_simp;done)|(go_simp;rfl));intro ai hg pq aJ hb;have ag:=k0 (aJ);have b8:=k0 ((by rw [hg];exact (alk bl):w.heap.size≤ai));have eB:=b8;replace HB:=k0 (aI bl hb);clear hb aJ hg;have xj:pq.cell? ⟨ai,0,none⟩=some (.int .i64 af):=(av ag.out 0).trans rfl;have xk:pq.cell? ⟨ai,1,none⟩=some (.slice aq aa.length ak):=(av ag.out 1).trans rfl;have xq:=aD ag.out 0;have xu:=aD ag.out 1;have dX:0≤((alA):Int):=oD;have dY:(alA) < (aa.length:Int):=oD;obtain ⟨pG,uT,vu,e102,iw,jm,jk⟩:=cX bZ.out (alA) dX dY;cases e102;replace iw:=hbc HB iw;have jc:=k0 jk;have pE:=k0 jm;clear jk jm;replace dX:=eq_true dX;replace dY:=eq_true dY;have alz:0≤(0:Int):=(by omega);have cV:0 < ((ah aa (alA)).length:Int):=oD;obtain ⟨kG,e105,dW⟩:=Kd.bJ jc.out 0 alz cV;cases e105;have Ep:(0 < (ah aa (alA)).length)=True:=eq_true (by omega);(try rw [show ((0:Int)).toNat=0 from rfl] at dW);(try rw [Addr.add_zero'] at dW);replace dW:=hbc HB dW;replace alz:=eq_true alz;replace cV:=eq_true cV;have dM:0≤(1:Int):=(by omega);have dD:1 < ((ah aa (alA)).length:Int):=oD;obtain ⟨gA,e106,dA⟩:=Kd.bJ jc.out 1 dM dD;obtain rfl:kG=gA:=(by injection e106);(try simp only [show (1:Int).toNat=1 from rfl,Nat.reduceMul,Nat.reduceEqDiff,Go.Addr.add,↓reduceIte] at dA);have Bu:(1 < (ah aa (alA)).length)=True:=eq_true (by omega);(try rw [show ((1:Int)).toNat=1 from rfl] at dA);replace dA:=hbc HB dA;replace dM:=eq_true dM;replace dD:=eq_true dD));try go_wp2_with (first|((with_reducible refine cj (N:=2) rfl ?_);refine dK ?hg (N:=2) ?hd (cs:=#[.int .i64 af,.slice aq aa.length ak]) (t:=31) ?hr ?_;(case hd=>rfl);(case hg=>rfl);(case hr=>first|(go_simp;done)|(go_simp;rfl));intro ai hg pq aJ hb;have ag:=k0 (aJ);have b8:=k0 ((by rw [hg];exact (alk bl):w.heap.size≤ai));have eB:=b8;replace HB:=k0 (aI bl hb);clear hb aJ hg;have xj:pq.cell? ⟨ai,0,none⟩=some (.int .i64 af):=(av ag.out 0).trans rfl;have xk:pq.cell? ⟨ai,1,none⟩=some (.slice aq aa.length ak):=(av ag.out 1).trans rfl;have xq:=aD ag.out 0;have xu:=aD ag.out 1;have dX:0≤((alA):Int):=oD;have dY:(alA) < (aa.length:Int):=oD;obtain ⟨pG,uT,vu,e102,iw,jm,jk⟩:=cX bZ.out (alA) dX dY;cases e102;replace iw:=hbc HB iw;have jc:=k0 jk;have pE:=k0 jm;clear jk jm;replace dX:=eq_true dX;replace dY:=eq_true dY;have alz:0≤(0:Int):=(by omega);have cV:0 < ((ah aa (alA)).length:Int):=oD;obtain ⟨kG,e105,dW⟩:=Kd.bJ jc.out 0 alz cV;cases e105;have Ep:(0 < (ah aa (alA)).length)=True:=eq_true (by omega);(try rw [show ((0:Int)).toNat=0 from rfl] at dW);(try rw [Addr.add_zero'] at dW);replace dW:=hbc HB dW;replace alz:=eq_true alz;replace cV:=eq_true cV;have dM:0≤(1:Int):=(by omega);have dD:1 < ((ah aa (alA)).length:Int):=oD;obtain ⟨gA,e106,dA⟩:=Kd.bJ jc.out 1 dM dD;obtain rfl:kG=gA:=(by injection e106);(try simp only [show (1:Int).toNat=1 from rfl,Nat.reduceMul,Nat.reduceEqDiff,Go.Addr.add,↓reduceIte] at dA);have Bu:(1 < (ah aa (alA)).length)=True:=eq_true (by omega);(try rw [show ((1:Int)).toNat=1 from rfl] at dA);replace dA:=hbc HB dA;replace dM:=eq_true dM;replace dD:=eq_true dD)))
  go_ret2
  exact ⟨by first|rfl|(simp [bz,bA]<;>rfl)|(simp only [← Dj];first|rfl|(simp [bz,bA]<;>rfl))|(simp [*,bz,bA]<;>rfl),bl⟩
 rw [if_pos c6] at H
 have gB:((Int.tmod a1 2) == 1)=true:=beq_iff_eq.mpr c6
 have wY:((Int.tmod a1 2) != 1)=false:=bne_eq_false_iff_eq.mpr c6
 clear c6
 replace H:=iS H;obtain ⟨c7,H⟩:=H
 have alJ:=decide_eq_true c7
 have wZ:decide (1 < (ah aa (alA)).length)=true:=decide_eq_true (by omega)
 clear c7
 replace H:=iS H;obtain ⟨c8,H⟩:=H
 have jg:=decide_eq_true c8
 have Ji:decide (0 < (ah aa (alA)).length)=true:=decide_eq_true (by omega)
 clear c8
 simp only [Option.some.injEq,Prod.mk.injEq] at H
 obtain ⟨rfl,rfl⟩:=H
 go_enter Try.func201,Try.ntmps201
 go_wp2_with (first|((with_reducible refine cj (N:=2) rfl ?_);refine dK ?hg (N:=2) ?hd (cs:=#[.int .i64 af,.slice aq aa.length ak]) (t:=31) ?hr ?_;(case hd=>rfl);(case hg=>rfl);(case hr=>first|(go_simp;done)|(go_simp;rfl));intro ai hg w9 aJ hb;have ag:=k0 (aJ);have b8:=k0 ((by rw [hg];exact (alk bl):w.heap.size≤ai));have eB:=b8;replace HB:=k0 (aI bl hb);clear hb aJ hg;have rW:w9.cell? ⟨ai,0,none⟩=some (.int .i64 af):=(av ag.out 0).trans rfl;have rX:w9.cell? ⟨ai,1,none⟩=some (.slice aq aa.length ak):=(av ag.out 1).trans rfl;have r3:=aD ag.out 0;have r4:=aD ag.out 1;have dX:0≤((alA):Int):=oD;have dY:(alA) < (aa.length:Int):=oD;obtain ⟨pG,uT,vu,e102,iw,jm,jk⟩:=cX bZ.out (alA) dX dY;cases e102;replace iw:=hbc HB iw;have jc:=k0 jk;have pE:=k0 jm;clear jk jm;replace dX:=eq_true dX;replace dY:=eq_true dY;have dP:0≤(1:Int):=(by omega);have dQ:1 < ((ah aa (alA)).length:Int):=oD;obtain ⟨iZ,e103,alC⟩:=Kd.bJ jc.out 1 dP dQ;cases e103;(try simp only [show (1:Int).toNat=1 from rfl,Nat.reduceMul,Nat.reduceEqDiff,Go.Addr.add,↓reduceIte] at alC);have SW:(1 < (ah aa (alA)).length)=True:=eq_true (by omega);(try rw [show ((1:Int)).toNat=1 from rfl] at alC);replace alC:=hbc HB alC;replace dP:=eq_true dP;replace dQ:=eq_true dQ;have cT:0≤(0:Int):=(by omega);have cU:0 < ((ah aa (alA)).length:Int):=oD;obtain ⟨kF,e104,cM⟩:=Kd.bJ jc.out 0 cT cU;obtain rfl:iZ=kF:=(by injection e104);have Eo:(0 < (ah aa (alA)).length)=True:=eq_true (by omega);(try rw [show ((0:Int)).toNat=0 from rfl] at cM);(try rw [Addr.add_zero'] at cM);replace cM:=hbc HB cM;replace cT:=eq_true cT;replace cU:=eq_true cU))
 repeat (go_quiet (first|((with_reducible refine cj (N:=2) rfl ?_);refine dK ?hg (N:=2) ?hd (cs:=#[.int .i64 af,.slice aq aa.length ak]) (t:=31) ?hr ?_;(case hd=>rfl);(case hg=>rfl);(case hr=>first|(go_simp;done)|(go_simp;rfl));intro ai hg w9 aJ hb;have ag:=k0 (aJ);have b8:=k0 ((by rw [hg];exact (alk bl):w.heap.size≤ai));have eB:=b8;replace HB:=k0 (aI bl hb);clear hb aJ hg;have rW:w9.cell? ⟨ai,0,none⟩=some (.int .i64 af):=(av ag.out 0).trans rfl;have rX:w9.cell? ⟨ai,1,none⟩=some (.slice aq aa.length ak):=(av ag.out 1).trans rfl;have r3:=aD ag.out 0;have r4:=aD ag.out 1;have dX:0≤((alA):Int):=oD;have dY:(alA) < (aa.length:Int):=oD;obtain ⟨pG,uT,vu,e102,iw,jm,jk⟩:=cX bZ.out (alA) dX dY;cases e102;replace iw:=hbc HB iw;have jc:=k0 jk;have pE:=k0 jm;clear jk jm;replace dX:=eq_true dX;replace dY:=eq_true dY;have dP:0≤(1:Int):=(by omega);have dQ:1 < ((ah aa (alA)).length:Int):=oD;obtain ⟨iZ,e103,alC⟩:=Kd.bJ jc.out 1 dP dQ;cases e103;(try simp only [show (1:Int).toNat=1 from rfl,Nat.reduceMul,Nat.reduceEqDiff,Go.Addr.add,↓reduceIte] at alC);have SW:(1 < (ah aa (alA)).length)=True:=eq_true (by omega);(try rw [show ((1:Int)).toNat=1 from rfl] at alC);replace alC:=hbc HB alC;replace dP:=eq_true dP;replace dQ:=eq_true dQ;have cT:0≤(0:Int):=(by omega);have cU:0 < ((ah aa (alA)).length:Int):=oD;obtain ⟨kF,e104,cM⟩:=Kd.bJ jc.out 0 cT cU;obtain rfl:iZ=kF:=(by injection e104);have Eo:(0 < (ah aa (alA)).length)=True:=eq_true (by omega);(try rw [show ((0:Int)).toNat=0 from rfl] at cM);(try rw [Addr.add_zero'] at cM);replace cM:=hbc HB cM;replace cT:=eq_true cT;replace cU:=eq_true cU));try go_wp2_with (first|((with_reducible refine cj (N:=2) rfl ?_);refine dK ?hg (N:=2) ?hd (cs:=#[.int .i64 af,.slice aq aa.length ak]) (t:=31) ?hr ?_;(case hd=>rfl);(case hg=>rfl);(case hr=>first|(go_simp;done)|(go_simp;rfl));intro ai hg w9 aJ hb;have ag:=k0 (aJ);have b8:=k0 ((by rw [hg];exact (alk bl):w.heap.size≤ai));have eB:=b8;replace HB:=k0 (aI bl hb);clear hb aJ hg;have rW:w9.cell? ⟨ai,0,none⟩=some (.int .i64 af):=(av ag.out 0).trans rfl;have rX:w9.cell? ⟨ai,1,none⟩=some (.slice aq aa.length ak):=(av ag.out 1).trans rfl;have r3:=aD ag.out 0;have r4:=aD ag.out 1;have dX:0≤((alA):Int):=oD;have dY:(alA) < (aa.length:Int):=oD;obtain ⟨pG,uT,vu,e102,iw,jm,jk⟩:=cX bZ.out (alA) dX dY;cases e102;replace iw:=hbc HB iw;have jc:=k0 jk;have pE:=k0 jm;clear jk jm;replace dX:=eq_true dX;replace dY:=eq_true dY;have dP:0≤(1:Int):=(by omega);have dQ:1 < ((ah aa (alA)).length:Int):=oD;obtain ⟨iZ,e103,alC⟩:=Kd.bJ jc.out 1 dP dQ;cases e103;(try simp only [show (1:Int).toNat=1 from rfl,Nat.reduceMul,Nat.reduceEqDiff,Go.Addr.add,↓reduceIte] at alC);have SW:(1 < (ah aa (alA)).length)=True:=eq_true (by omega);(try rw [show ((1:Int)).toNat=1 from rfl] at alC);replace alC:=hbc HB alC;replace dP:=eq_true dP;replace dQ:=eq_true dQ;have cT:0≤(0:Int):=(by omega);have cU:0 < ((ah aa (alA)).length:Int):=oD;obtain ⟨kF,e104,cM⟩:=Kd.bJ jc.out 0 cT cU;obtain rfl:iZ=kF:=(by injection e104);have Eo:(0 < (ah aa (alA)).length)=True:=eq_true (by omega);(try rw [show ((0:Int)).toNat=0 from rfl] at cM);(try rw [Addr.add_zero'] at cM);replace cM:=hbc HB cM;replace cT:=eq_true cT;replace cU:=eq_true cU)))
 go_ret2
 exact ⟨by first|rfl|(simp [bz,bA]<;>rfl)|(simp only [← Dj];first|rfl|(simp [bz,bA]<;>rfl))|(simp [*,bz,bA]<;>rfl),bl⟩
/-! ### F120: function 120 -/
mutual
def eV.l0 : Nat → List (List Int) → Int → Int → List (List Int) → Option ((List (List Int)))
 | 0,_,_,_,_=>none
 | k+1,x3,x4,bF,bE=>if x4 < bF then (if 0≤bF then (if (bF:Int).toNat≤35184372088832 then (if x3.length < 5864062014805 then (eV.l0 k (x3 ++ [(List.replicate (bF:Int).toNat 0)]) (wrap64 (x4+1)) bF bE) else (none)) else (none)) else (none)) else (eV.l1 k x3 0 bF bE)
def eV.l1 : Nat → List (List Int) → Int → Int → List (List Int) → Option ((List (List Int)))
 | 0,_,_,_,_=>none
 | k+1,x3,x5,bF,bE=>if x5 < (wrap64 (2 * (bE.length:Int))) then ((zU.f bF bE x5).bind fun uo=>(if 0≤uo.1 then (if uo.1 < (x3.length:Int) then (if 0≤uo.2 then (if uo.2 < ((ah x3 uo.1).length:Int) then (eV.l1 k (x3.set (uo.1:Int).toNat ((ah x3 uo.1).set (uo.2:Int).toNat (wrap64 ((rd (ah x3 uo.1) uo.2)+1)))) (wrap64 (x5+1)) bF bE) else (none)) else (none)) else (none)) else (none))) else (some x3)
end
def eV.f (k:Nat) (af:Int) (aa:List (List Int)):Option ((List (List Int))):=eV.l0 k (([]:List (List Int))) 0 af aa
theorem eV.bU : ∀ k, (∀ y0 y1 y2 y3, aj (eV.l0 k y0 y1 y2 y3) (eV.l0 (k + 1) y0 y1 y2 y3)) ∧ (∀ y0 y1 y2 y3, aj (eV.l1 k y0 y1 y2 y3) (eV.l1 (k + 1) y0 y1 y2 y3))
 | 0=>⟨fun _ _ _ _ r h=>by simp [eV.l0] at h,fun _ _ _ _ r h=>by simp [eV.l1] at h⟩
 | k+1=>by
  obtain ⟨alg,ih1⟩:=eV.bU k
  refine ⟨?_, ?_⟩ <;> intros <;> (first | unfold eV.l0 | unfold eV.l1) <;> repeat' first
   | (with_reducible first|exact alg _ _ _ _|exact ih1 _ _ _ _|exact aj.refl _|exact aj.none _|refine aj.ite ?_ ?_|refine aj.bind ?_ (fun _=>?_))
   | exact alg _ _ _ _|exact ih1 _ _ _ _|exact aj.none _|refine aj.ite ?_ ?_|refine aj.bind ?_ (fun _=>?_)
theorem eV.mono:∀ a0 a1 k,aj (eV.f k a0 a1) (eV.f (k+1) a0 a1):=by
 intro a0 a1 k
 obtain ⟨alg,ih1⟩:=eV.bU k
 unfold eV.f
 repeat' first
  | (with_reducible first|exact alg _ _ _ _|exact ih1 _ _ _ _|exact aj.refl _|exact aj.none _|refine aj.ite ?_ ?_|refine aj.bind ?_ (fun _=>?_))
  | exact alg _ _ _ _|exact ih1 _ _ _ _|exact aj.none _|refine aj.ite ?_ ?_|refine aj.bind ?_ (fun _=>?_)
set_option maxHeartbeats 8000000 in
set_option maxRecDepth 100000 in
theorem eV.calls (k : Nat) (af : Int) (aq : Option Addr) (ak : Nat) (aa : List (List Int)) (r : List (List Int)) (w : World) (aly : Kd.C (Kd.slice 2 (Kd.int .i64)) w aq aa.length aa) (ck : aa.length ≤ ak) (h : eV.f k af aa = some r) :
  Calls Try.prog 120 #[.agg #[.int .i64 af,.slice aq aa.length ak]] w fun e w'=>∃ dH:Value,e=.returned (dH)∧Kd.S (Kd.slice 2 (Kd.int .i64)) 28 w' w.heap.size (fun _=>True) dH r∧Below w.heap.size w w':=by
 have j9:=Try.underlying31
 have bZ:=k0 aly
 have cD:=k0 ck
 clear aly ck
 have HB:=k0 (Below.refl w.heap.size w)
 have H:(eV.l0 k (([]:List (List Int))) 0 af aa)=some r:=h
 clear h
 obtain ⟨alD,eM⟩:∃ y_:List (List Int),y_=(([]:List (List Int))):=⟨_,rfl⟩
 replace H:(eV.l0 k alD 0 af aa)=some r:=by first|(rw [eM];with_reducible exact H)|(have ax:=(Option.bind_some _ _).symm.trans H;rw [eM];with_reducible exact ax)|(have ax:=(Option.bind_some _ _).symm.trans H;with_reducible exact ax)|with_reducible exact H|(rw [eM];exact H)|exact H
 have gz:=k0 eM
 clear eM
 have H':=k0 H
 clear H
 go_enter Try.func120,Try.ntmps120
 go_wp2_with (first|((with_reducible refine cj (N:=1) rfl ?_);refine dK ?hg (N:=1) ?hd (cs:=#[.int .i64 af,.slice aq aa.length ak]) (t:=31) ?hr ?_;(case hd=>rfl);(case hg=>rfl);(case hr=>first|(go_simp;done)|(go_simp;rfl));intro ai hg w2 aJ hb;have ag:=k0 (aJ);have b8:=k0 ((by rw [hg];exact (alk bl):w.heap.size≤ai));have eB:=b8;replace HB:=k0 (aI bl hb);clear hb aJ hg)|((with_reducible refine cj (N:=9) rfl ?_);refine Kd.Ca (Kd.slice 2 (Kd.int .i64)) _ 28 ?hg (N:=9) ?hd (xs:=([]:List (List Int))) (inner:=[]) (ok:=fun _=>True) (b9:=fun _=>True) ?hr ?hp (fun _ hk=>hk) trivial (Below.refl _ _) (Nat.le_refl _) (by simp) ?_;(case hd=>rfl);(case hg=>rfl);(case hr=>first|(go_simp;done)|(go_simp;rfl));(case hp=>exact (bW.none _ _));intro dn w3 eu hb dF dG;clear dF dG;(first|rw [← gz.out] at eu|(simp only [Int.reduceToNat] at eu;rw [← gz.out] at eu));have bq:=k0 (Kd.oR eu (alk bl));replace ag:=k0 (alm (g:=ai) (o:=sO af aq aa ak 31) bk hb);replace HB:=k0 (aI bl hb);clear hb eu))
 go_loopg [3,4] k (fun kq v3 v4 w'=>∃ (bC:List (List Int)) (aY:Int),v4=.int .i64 aY∧au (eV.l0 kq bC aY af aa=some r)∧au (kq≤k)∧au (Kd.S (Kd.slice 2 (Kd.int .i64)) 28 w' w.heap.size (fun _=>True) v3 bC)∧au (w'.heap[ai]?=some (sO af aq aa ak 31))∧au (Below w.heap.size w w'))
 case atStart=>exact ⟨(alD),(0),rs,H',⟨Nat.le_refl _⟩,⟨aS (bq.out)⟩,⟨bk⟩,⟨bl⟩⟩
 case round =>
  clear H'
  obtain ⟨bC,aY,rfl,HA,alj,ald,ag,HB⟩:=hrel
  cases gk with
  | zero=>exact absurd HA.out (by simp [eV.l0])
  | succ k1 =>
   have H:=HA.out
   clear HA
   simp only [eV.l0] at H
   by_cases c5:aY < af
   case neg =>
    rw [if_neg c5] at H
    have alS:decide (aY < af)=false:=decide_eq_false c5
    clear c5
    have H':=k0 H
    clear H
    have xj:wr.cell? ⟨ai,0,none⟩=some (.int .i64 af):=(av ag.out 0).trans rfl
    have xk:wr.cell? ⟨ai,1,none⟩=some (.slice aq aa.length ak):=(av ag.out 1).trans rfl
    have xq:=aD ag.out 0
    have xu:=aD ag.out 1
    go_wp2
    go_loopg [5] k1 (fun kq v5 w'=>∃ (ale:List (List Int)) (alo:Int),v5=.int .i64 alo∧au (eV.l1 kq ale alo af aa=some r)∧au (kq≤k1)∧au (Kd.S (Kd.slice 2 (Kd.int .i64)) 28 w' w.heap.size (fun _=>True) u3 ale)∧au (w'.heap[ai]?=some (sO af aq aa ak 31))∧au (Below w.heap.size w w'))
    case atStart=>exact ⟨(bC),(0),rs,H',⟨Nat.le_refl _⟩,⟨aS (ald.out)⟩,⟨bk⟩,⟨bl⟩⟩
    case round =>
     clear H'
     (try clear c5);(try clear alS);(try clear c6);(try clear gB);(try clear wY);(try clear c7);(try clear alJ);(try clear wZ);(try clear c8);(try clear xj);(try clear xk);(try clear uA);(try clear uB);(try clear xq);(try clear xu);(try clear uD);(try clear uE)
     obtain ⟨ale,alo,rfl,HA,bB,ald,ag,HB⟩:=hrel
     cases gk with
     | zero=>exact absurd HA.out (by simp [eV.l1])
     | succ k2 =>
      have H:=HA.out
      clear HA
      simp only [eV.l1] at H
      by_cases c15:alo < (wrap64 (2 * (aa.length:Int)))
      case neg =>
       rw [if_neg c15] at H
       have jD:decide (alo < (wrap64 (2 * (aa.length:Int))))=false:=decide_eq_false c15
       clear c15
       obtain rfl:=Option.some.inj H
       have aaI:wr.cell? ⟨ai,0,none⟩=some (.int .i64 af):=(av ag.out 0).trans rfl
       have aaJ:wr.cell? ⟨ai,1,none⟩=some (.slice aq aa.length ak):=(av ag.out 1).trans rfl
       have abd:=aD ag.out 0
       have abe:=aD ag.out 1
       go_wp2
       go_ret
       exact ⟨_,by first|rfl|(simp [bz,bA]<;>rfl)|(simp [*,bz,bA]<;>rfl),by (with_reducible repeat (first|apply Kd.gK|apply Kd.alH|apply Kd.eW));exact ald.out,bl⟩
      rw [if_pos c15] at H
      have jD:=decide_eq_true c15
      clear c15
      replace H:=Option.bind_eq_some_iff.mp H
      obtain ⟨⟨t111,t112⟩,al4,H⟩:=H
      replace H:(if 0≤t111 then (if t111 < (ale.length:Int) then (if 0≤t112 then (if t112 < ((ah ale t111).length:Int) then (eV.l1 k2 (ale.set (t111:Int).toNat ((ah ale t111).set (t112:Int).toNat (wrap64 ((rd (ah ale t111) t112)+1)))) (wrap64 (alo+1)) af aa) else (none)) else (none)) else (none)) else (none))=some r:=H
      have oL:=k0 al4
      clear al4
      replace H:=iS H;obtain ⟨c17,H⟩:=H
      have oW:=decide_eq_true c17
      clear c17
      replace H:=iS H;obtain ⟨c18,H⟩:=H
      have qZ:=decide_eq_true c18
      clear c18
      replace H:=iS H;obtain ⟨c19,H⟩:=H
      have lC:=decide_eq_true c19
      clear c19
      replace H:=iS H;obtain ⟨c20,H⟩:=H
      have og:=decide_eq_true c20
      clear c20
      obtain ⟨dU,gh⟩:∃ y_:List Int,y_=((ah ale t111).set (t112:Int).toNat (wrap64 ((rd (ah ale t111) t112)+1))):=⟨_,rfl⟩
      replace H:(eV.l1 k2 (ale.set (t111:Int).toNat dU) (wrap64 (alo+1)) af aa)=some r:=by first|(rw [gh];with_reducible exact H)|(have ax:=(Option.bind_some _ _).symm.trans H;rw [gh];with_reducible exact ax)|(have ax:=(Option.bind_some _ _).symm.trans H;with_reducible exact ax)|with_reducible exact H|(rw [gh];exact H)|exact H
      have mT:=k0 gh
      clear gh
      obtain ⟨Mo,DV⟩:∃ y_:List (List Int),y_=(ale.set (t111:Int).toNat dU):=⟨_,rfl⟩
      replace H:(eV.l1 k2 Mo (wrap64 (alo+1)) af aa)=some r:=by first|(rw [DV];with_reducible exact H)|(have ax:=(Option.bind_some _ _).symm.trans H;rw [DV];with_reducible exact ax)|(have ax:=(Option.bind_some _ _).symm.trans H;with_reducible exact ax)|with_reducible exact H|(rw [DV];exact H)|exact H
      have V2:=k0 DV
      clear DV
      have H':=k0 H
      clear H
      have QH:wr.cell? ⟨ai,0,none⟩=some (.int .i64 af):=(av ag.out 0).trans rfl
      have QI:wr.cell? ⟨ai,1,none⟩=some (.slice aq aa.length ak):=(av ag.out 1).trans rfl
      have QX:=aD ag.out 0
      have QY:=aD ag.out 1
      go_wp2_with (first|((with_reducible refine dx (f:=201) rfl ?_);refine dy (some 33) rfl rfl Try.func201 (by kernel_rfl) rfl #[.agg #[.int .i64 af,.slice aq aa.length ak],.int .i64 alo] rfl gm ?_;(with_reducible refine (zU.calls af _ _ aa alo t111 t112 _ ?aT ?aU oL.out).mono ?_);(case aT=>exact aC (Kd.bK bZ.out HB.out));(case aU=>exact cD.out);rintro e ank ⟨rfl,hb⟩;refine ⟨_,rfl,?_⟩;replace ald:=k0 (Kd.kY (aS ald.out) hb);replace ag:=k0 (alm (g:=ai) (o:=sO af aq aa ak 31) bk hb);replace HB:=k0 (aI bl hb);(try clear hb);obtain ⟨Hu,Ct,AO⟩:=Kd.pF ald.out;subst AO;have nO:0≤(t111:Int):=oD;have nP:t111 < (ale.length:Int):=oD;obtain ⟨ym,afH,Xr,e113,nc,Rn,Q7⟩:=cX (Kd.alw ald.out).2.2 t111 nO nP;cases e113;obtain ⟨agQ,aai,Z5,Qm⟩:=Kd.mB ald.out [] t111 nO (by first|exact nP|exact oD|(have e_:=(Kd.alw ald.out).1;omega));obtain ⟨akM,rfl,JM⟩:=Z5;have DB:=Qm 0 _ rfl;rw [Nat.add_zero,show ((Kd.slice 2 (Kd.int .i64))).sz=1 from rfl,Nat.mul_one] at DB;replace DB:=Option.some.inj (DB.symm.trans nc);rw [DB] at JM;have E2:=k0 (show Kd.R (Kd.int .i64) 2 _ _ _ _ (ah ale t111) from JM);clear DB JM;have E9:=k0 nc;clear Qm aai;have NL:=k0 Q7;have af1:=k0 Rn;clear Q7 Rn;replace nO:=eq_true nO;replace nP:=eq_true nP;have iy:0≤(t112:Int):=oD;have iz:t112 < ((ah ale t111).length:Int):=oD;obtain ⟨l5,e114,iU⟩:=Kd.bJ (by repeat (first|(with_reducible exact NL.out)|(with_reducible refine Kd.kQ ?_ _)|(with_reducible refine Kd.alZ ?_ _)|(with_reducible refine Kd.jZ ?_)|exact NL.out)) t112 iy iz;cases e114;replace iy:=eq_true iy;replace iz:=eq_true iz;have tN:0≤(t112:Int):=oD;have tQ:(t112:Int) < (((ah ale t111).length:Int):Int):=oD;obtain ⟨sR,rQ,rT,amI,CN,OQ,wF⟩:=Kd.lp E2.out (by omega);(first|cases rT|(injection rT with bh dm di;(first|subst bh|(injection bh with bh;subst bh));subst di;clear dm));have BS:=k0 amI;have anJ:=k0 wF;clear amI CN wF;(first|simp only [add_plain] at iU|skip);obtain ⟨K3,KC⟩:=Kd.jB 0 E2.out (t112:Int) tN tQ;replace tN:=eq_true tN;replace tQ:=eq_true tQ;have KT:(t111:Int) < (ale.length:Int):=(by have h_:(t111:Int) < ((ale.length:Int):Int):=oD;first|exact h_|(have e_:=(Kd.alw ald.out).1;omega)|simpa only [List.length_set,List.length_set] using h_);obtain ⟨SN,XV,Km,J8,C2,Bf,CY⟩:=Kd.Ai ald.out [] (t111:Int) oD (by first|exact KT|(have e_:=(Kd.alw ald.out).1;omega));obtain ⟨afi,rfl,sP⟩:=J8;have vT:=C2 0 _ rfl;rw [Nat.add_zero,show ((Kd.slice 2 (Kd.int .i64))).sz=1 from rfl,Nat.mul_one] at vT;replace vT:=Option.some.inj (vT.symm.trans E9.out);subst vT;clear C2 Km;replace sP:=(show Kd.R (Kd.int .i64) 2 _ _ _ _ (ah ale t111) from sP);have p7:=Kd.kW sP (t112:Int) (wrap64 ((rd (ah ale t111) t112)+1)))|((with_reducible refine lF (t:=2) (p:=45) rfl ?_);refine lJ (t:=2) (p:=45) (v:=?afm) (w1:=(ank.setCell ⟨sR,(t112:Int).toNat,none⟩ (.int .i64 (wrap64 ((rd (ah ale t111) t112)+1))))) ?hg ?ho ?hn ?hr ?_;(case ho=>rfl);(case hg=>rfl);(case hn=>rfl);(case hr=>first|(go_simp;done)|(go_simp;rfl));intro uQ hw;have hg:ank.grownBy uQ (some sR):=(by rw [hw];exact p7.2);have zj:Kd.R (Kd.int .i64) 2 uQ w.heap.size SN (.slice (some ⟨sR,0,none⟩) (ah ale t111).length Xr) dU:=(by rw [hw,mT.out];exact p7.1);have ec:Kd.S (Kd.slice 2 (Kd.int .i64)) 28 uQ w.heap.size (fun _=>True) (.slice (some ym) ale.length Ct) Mo:=(by rw [V2.out];exact CY hg (fun k_ e_=>by injection e_ with e_;subst e_;exact sP.1 _ rfl) (Kd.rJ zj));have amZ:=Kd.alq zj Bf;clear p7 CY;have aE:=k0 (ec);have aH:=k0 (iQ (g:=ai) (o:=sO af aq aa ak 31) bk hg (Kd.gY E2.out ag.out (by decide)));have aK:=k0 (am6 hg E9.out (am7 (Bf _ (sP.1 _ rfl)).2));have a_:=k0 ((by rw [hw];exact dJ (HB.out) BS.out:Below w.heap.size w uQ));have alp:=k0 (amZ);have bw:=k0 ((Kd.bx amZ).2.1);clear ald;clear ag;clear E9;clear HB;clear E2;have ald:=aE;have ag:=aH;have E9:=aK;have HB:=a_;have age:=alp;have af2:=bw;clear aE aH aK a_ alp bw;clear hg hw ec zj amZ Bf))
      go_roundg k2
      case measure=>have:=alj.out;have:=bB.out;omega
      case rel=>exact ⟨(Mo),(wrap64 (alo+1)),rs,H',⟨by have:=alj.out;have:=bB.out;omega⟩,⟨aS (ald.out)⟩,⟨bk⟩,⟨bl⟩⟩
   rw [if_pos c5] at H
   have alS:=decide_eq_true c5
   clear c5
   replace H:=iS H;obtain ⟨c6,H⟩:=H
   have gB:=eq_true c6
   have wY:=decide_eq_true c6
   clear c6
   replace H:=iS H;obtain ⟨c7,H⟩:=H
   have alJ:=eq_true c7
   have wZ:=decide_eq_true c7
   clear c7
   obtain ⟨jb,fy⟩:∃ y_:List Int,y_=(List.replicate (af:Int).toNat 0):=⟨_,rfl⟩
   replace H:(if bC.length < 5864062014805 then (eV.l0 k1 (bC ++ [jb]) (wrap64 (aY+1)) af aa) else (none))=some r:=by first|(rw [fy];with_reducible exact H)|(have ax:=(Option.bind_some _ _).symm.trans H;rw [fy];with_reducible exact ax)|(have ax:=(Option.bind_some _ _).symm.trans H;with_reducible exact ax)|with_reducible exact H|(rw [fy];exact H)|exact H
   have lY:=k0 fy
   clear fy
   replace H:=iS H;obtain ⟨c8,H⟩:=H
   have IJ:=k0 c8
   clear c8
   obtain ⟨mQ,alM⟩:∃ y_:List (List Int),y_=(bC ++ [jb]):=⟨_,rfl⟩
   replace H:(eV.l0 k1 mQ (wrap64 (aY+1)) af aa)=some r:=by first|(rw [alM];with_reducible exact H)|(have ax:=(Option.bind_some _ _).symm.trans H;rw [alM];with_reducible exact ax)|(have ax:=(Option.bind_some _ _).symm.trans H;with_reducible exact ax)|with_reducible exact H|(rw [alM];exact H)|exact H
   have sA:=k0 alM
   clear alM
   have H':=k0 H
   clear H
   have uA:wr.cell? ⟨ai,0,none⟩=some (.int .i64 af):=(av ag.out 0).trans rfl
   have uB:wr.cell? ⟨ai,1,none⟩=some (.slice aq aa.length ak):=(av ag.out 1).trans rfl
   have uD:=aD ag.out 0
   have uE:=aD ag.out 1
   go_wp2_with (first|((with_reducible refine cj (N:=19) rfl ?_);refine Kd.yg (Kd.int .i64) _ 2 rfl (N:=19) rfl 28 _ _ rfl af rfl rfl Try.underlying28 (.int .i64 0) 8 alU rfl (by decide) (by omega) 0 (ok:=fun _=>True) (b9:=fun _=>True) rfl (fun _ hk=>hk) trivial oD (Nat.le_trans (Nat.mul_le_mul_right _ (oD:af.toNat≤35184372088832)) (by omega)) (Below.refl _ _) (Nat.le_refl _) ?_;intro fY gw Ba hb dF dG;clear dF dG;(first|rw [← lY.out] at Ba|(simp only [Int.reduceToNat] at Ba;rw [← lY.out] at Ba));replace ald:=k0 (Kd.kE (aS ald.out) (Kd.cn Ba) hb);have cO:=k0 (Kd.dI Ba (alk bl));replace ag:=k0 (alm (g:=ai) (o:=sO af aq aa ak 31) bk hb);replace HB:=k0 (aI bl hb);clear hb Ba;obtain ⟨sq,sG,AL⟩:=Kd.eF cO.out;subst AL)|((with_reducible refine ot (b:=.append) (xs:=#[.tmp 16,.tmp 20]) rfl ?_);at_builtin;refine Kd.ans (Kd.slice 2 (Kd.int .i64)) (w0:=w) w.heap.size rfl (.tmp 16) (.tmp 20) 22 28 (.slice none 0 0) 24 rfl Try.underlying22 xI rfl (by decide) (by omega) u3 bC jb [.slice sq jb.length sG] (fun _=>True) (fun k_=>some k_=(.slice sq jb.length sG:Value).ownBlock) rfl rfl ?aP (fun k_ j7=>((Kd.alq (ok':=fun k_=>((fun _=>True)) k_∧some k_ ≠ (u3:Value).ownBlock) (Kd.mV (cO.out) (Kd.lq ald.out) (by decide)) (fun k_ hk=>⟨trivial,hk.2⟩))).1 k_ j7.symm) ?aF ?aO ?aB ?aS ?aL ?_;(case aP=>exact Kd.rJ (Kd.alq (Kd.vq rfl (Kd.alq (ok':=fun k_=>((fun _=>True)) k_∧some k_ ≠ (u3:Value).ownBlock) (Kd.mV (cO.out) (Kd.lq ald.out) (by decide)) (fun k_ hk=>⟨trivial,hk.2⟩))) (fun _ h_=>h_)));(case aB=>exact bl);(case aF=>exact (fun _ _=>trivial));(case aO=>exact (by (with_reducible repeat (first|apply Kd.gK|apply Kd.alH|apply Kd.eW));exact Kd.iF ald.out (fun k_ hk=>⟨trivial,fun e_=>hk.2 e_⟩)));(case aS=>exact (alk bl));(case aL=>have:=IJ.out;omega);intro v109 jt ho hb hg bX;rw [← sA.out] at ho;have aE:=k0 (iQ (g:=ai) (o:=sO af aq aa ak 31) bk hg (Kd.Aj ald.out ag.out (by decide)));have aH:=k0 (hb);have aK:=k0 (ho);clear ag;clear HB;clear ald;clear cO;have ag:=aE;have HB:=aH;have zY:=aK;clear aE aH aK;clear ho hb hg bX))
   go_roundg k1
   case measure=>have:=alj.out;omega
   case rel=>exact ⟨(mQ),(wrap64 (aY+1)),rs,H',⟨by have:=alj.out;omega⟩,⟨aS (zY.out)⟩,⟨bk⟩,⟨bl⟩⟩
/-! ### F177: function 177 -/
mutual
def fC.l0 : Nat → Int → Int → Int → Int → List (List Int) → Option (Int)
 | 0,_,_,_,_,_=>none
 | k+1,x1,x5,x6,bF,bE=>if x6 < (bE.length:Int) then (fC.l1 k x1 x5 x6 0 bF bE) else (some x5)
def fC.l1 : Nat → Int → Int → Int → Int → Int → List (List Int) → Option (Int)
 | 0,_,_,_,_,_,_=>none
 | k+1,x1,x5,x6,x7,bF,bE=>if x7 < 2 then (if 0≤x6 then (if x6 < (bE.length:Int) then (if 0≤x7 then (if x7 < ((ah bE x6).length:Int) then (if (rd (ah bE x6) x7)=x1 then (fC.l1 k x1 (wrap64 (x5+1)) x6 (wrap64 (x7+1)) bF bE) else (fC.l1 k x1 x5 x6 (wrap64 (x7+1)) bF bE)) else (none)) else (none)) else (none)) else (none)) else (fC.l0 k x1 x5 (wrap64 (x6+1)) bF bE)
end
def fC.f (k:Nat) (af:Int) (aa:List (List Int)) (a1:Int):Option (Int):=fC.l0 k a1 0 0 af aa
theorem fC.bU : ∀ k, (∀ y0 y1 y2 y3 y4, aj (fC.l0 k y0 y1 y2 y3 y4) (fC.l0 (k + 1) y0 y1 y2 y3 y4)) ∧ (∀ y0 y1 y2 y3 y4 y5, aj (fC.l1 k y0 y1 y2 y3 y4 y5) (fC.l1 (k + 1) y0 y1 y2 y3 y4 y5))
 | 0=>⟨fun _ _ _ _ _ r h=>by simp [fC.l0] at h,fun _ _ _ _ _ _ r h=>by simp [fC.l1] at h⟩
 | k+1=>by
  obtain ⟨alg,ih1⟩:=fC.bU k
  refine ⟨?_, ?_⟩ <;> intros <;> (first | unfold fC.l0 | unfold fC.l1) <;> repeat' first
   | (with_reducible first|exact alg _ _ _ _ _|exact ih1 _ _ _ _ _ _|exact aj.refl _|exact aj.none _|refine aj.ite ?_ ?_|refine aj.bind ?_ (fun _=>?_))
   | exact alg _ _ _ _ _|exact ih1 _ _ _ _ _ _|exact aj.none _|refine aj.ite ?_ ?_|refine aj.bind ?_ (fun _=>?_)
theorem fC.mono:∀ a0 a1 a2 k,aj (fC.f k a0 a1 a2) (fC.f (k+1) a0 a1 a2):=by
 intro a0 a1 a2 k
 obtain ⟨alg,ih1⟩:=fC.bU k
 unfold fC.f
 repeat' first
  | (with_reducible first|exact alg _ _ _ _ _|exact ih1 _ _ _ _ _ _|exact aj.refl _|exact aj.none _|refine aj.ite ?_ ?_|refine aj.bind ?_ (fun _=>?_))
  | exact alg _ _ _ _ _|exact ih1 _ _ _ _ _ _|exact aj.none _|refine aj.ite ?_ ?_|refine aj.bind ?_ (fun _=>?_)
set_option maxHeartbeats 8000000 in
set_option maxRecDepth 100000 in
theorem fC.calls (k : Nat) (af : Int) (aq : Option Addr) (ak : Nat) (aa : List (List Int)) (a1 : Int) (r : Int) (w : World) (aly : Kd.C (Kd.slice 2 (Kd.int .i64)) w aq aa.length aa) (ck : aa.length ≤ ak) (h : fC.f k af aa a1 = some r) :
  Calls Try.prog 177 #[.agg #[.int .i64 af,.slice aq aa.length ak],.int .i64 a1] w fun e w'=>e=.returned (.int .i64 r)∧Below w.heap.size w w':=by
 have j9:=Try.underlying31
 have bZ:=k0 aly
 have cD:=k0 ck
 clear aly ck
 have HB:=k0 (Below.refl w.heap.size w)
 have H:(fC.l0 k a1 0 0 af aa)=some r:=h
 clear h
 have H':=k0 H
 clear H
 go_enter Try.func177,Try.ntmps177
 go_wp2_with (first|((with_reducible refine cj (N:=2) rfl ?_);refine dK ?hg (N:=2) ?hd (cs:=#[.int .i64 af,.slice aq aa.length ak]) (t:=31) ?hr ?_;(case hd=>rfl);(case hg=>rfl);(case hr=>first|(go_simp;done)|(go_simp;rfl));intro ai hg w3 aJ hb;have ag:=k0 (aJ);have b8:=k0 ((by rw [hg];exact (alk bl):w.heap.size≤ai));have eB:=b8;replace HB:=k0 (aI bl hb);clear hb aJ hg))
 go_loopg [5,6] k (fun kq v5 v6 w'=>∃ (ali:Int) (fS:Int),v5=.int .i64 ali∧v6=.int .i64 fS∧au (fC.l0 kq a1 ali fS af aa=some r)∧au (kq≤k)∧au (w'.heap[ai]?=some (sO af aq aa ak 31))∧au (Below w.heap.size w w'))
 case atStart=>exact ⟨(0),(0),rs,rs,H',⟨Nat.le_refl _⟩,⟨bk⟩,⟨bl⟩⟩
 case round =>
  clear H'
  obtain ⟨ali,fS,rfl,rfl,HA,alj,ag,HB⟩:=hrel
  cases gk with
  | zero=>exact absurd HA.out (by simp [fC.l0])
  | succ k1 =>
   have H:=HA.out
   clear HA
   simp only [fC.l0] at H
   by_cases c4:fS < (aa.length:Int)
   case neg =>
    rw [if_neg c4] at H
    have eD:decide (fS < (aa.length:Int))=false:=decide_eq_false c4
    clear c4
    obtain rfl:=Option.some.inj H
    have xj:wr.cell? ⟨ai,0,none⟩=some (.int .i64 af):=(av ag.out 0).trans rfl
    have xk:wr.cell? ⟨ai,1,none⟩=some (.slice aq aa.length ak):=(av ag.out 1).trans rfl
    have xq:=aD ag.out 0
    have xu:=aD ag.out 1
    go_wp2
    go_ret
    exact ⟨by first|rfl|(simp [bz,bA]<;>rfl)|(simp [*,bz,bA]<;>rfl),bl⟩
   rw [if_pos c4] at H
   have eD:=decide_eq_true c4
   clear c4
   have H':=k0 H
   clear H
   have sU:wr.cell? ⟨ai,0,none⟩=some (.int .i64 af):=(av ag.out 0).trans rfl
   have sV:wr.cell? ⟨ai,1,none⟩=some (.slice aq aa.length ak):=(av ag.out 1).trans rfl
   have sX:=aD ag.out 0
   have sY:=aD ag.out 1
   go_wp2
   go_loopg [5,7] k1 (fun kq v5 v7 w'=>∃ (alo:Int) (dB:Int),v5=.int .i64 alo∧v7=.int .i64 dB∧au (fC.l1 kq a1 alo fS dB af aa=some r)∧au (kq≤k1)∧au (w'.heap[ai]?=some (sO af aq aa ak 31))∧au (Below w.heap.size w w'))
   case atStart=>exact ⟨(ali),(0),rs,rs,H',⟨Nat.le_refl _⟩,⟨bk⟩,⟨bl⟩⟩
   case round =>
    clear H'
    (try clear c4);(try clear eD);(try clear sU);(try clear sV);(try clear sX);(try clear sY)
    obtain ⟨alo,dB,rfl,rfl,HA,bB,ag,HB⟩:=hrel
    cases gk with
    | zero=>exact absurd HA.out (by simp [fC.l1])
    | succ k2 =>
     have H:=HA.out
     clear HA
     simp only [fC.l1] at H
     by_cases c6:dB < 2
     case neg =>
      rw [if_neg c6] at H
      have gB:decide (dB < 2)=false:=decide_eq_false c6
      clear c6
      have H':=k0 H
      clear H
      go_wp2
      go_roundg k2
      case measure=>have:=alj.out;have:=bB.out;omega
      case rel=>exact ⟨(alo),(wrap64 (fS+1)),rs,rs,H',⟨by have:=alj.out;have:=bB.out;omega⟩,⟨bk⟩,⟨bl⟩⟩
     rw [if_pos c6] at H
     have gB:=decide_eq_true c6
     clear c6
     replace H:=iS H;obtain ⟨c7,H⟩:=H
     have alJ:=decide_eq_true c7
     clear c7
     replace H:=iS H;obtain ⟨c8,H⟩:=H
     have jg:=decide_eq_true c8
     clear c8
     replace H:=iS H;obtain ⟨c9,H⟩:=H
     have mD:=decide_eq_true c9
     clear c9
     replace H:=iS H;obtain ⟨c10,H⟩:=H
     have lO:=decide_eq_true c10
     clear c10
     by_cases c11:(rd (ah aa fS) dB)=a1
     case neg =>
      rw [if_neg c11] at H
      have i_:((rd (ah aa fS) dB) == a1)=false:=beq_eq_false_iff_ne.mpr c11
      have oc:((rd (ah aa fS) dB) != a1)=true:=bne_iff_ne.mpr c11
      have H':=k0 H
      clear H
      have aaF:wr.cell? ⟨ai,0,none⟩=some (.int .i64 af):=(av ag.out 0).trans rfl
      have aaG:wr.cell? ⟨ai,1,none⟩=some (.slice aq aa.length ak):=(av ag.out 1).trans rfl
      have aba:=aD ag.out 0
      have abb:=aD ag.out 1
      have dX:0≤(fS:Int):=oD
      have dY:fS < (aa.length:Int):=oD
      obtain ⟨pG,uT,vu,e102,iw,jm,jk⟩:=cX bZ.out fS dX dY
      cases e102
      replace iw:=hbc HB iw
      have jc:=k0 jk
      have pE:=k0 jm
      clear jk jm
      replace dX:=eq_true dX
      replace dY:=eq_true dY
      have dP:0≤(dB:Int):=oD
      have dQ:dB < ((ah aa fS).length:Int):=oD
      obtain ⟨iZ,e103,alC⟩:=Kd.bJ jc.out dB dP dQ
      cases e103
      replace alC:=hbc HB alC
      replace dP:=eq_true dP
      replace dQ:=eq_true dQ
      go_wp2
      go_roundg k2
      case measure=>have:=alj.out;have:=bB.out;omega
      case rel=>exact ⟨(alo),(wrap64 (dB+1)),rs,rs,H',⟨by have:=alj.out;have:=bB.out;omega⟩,⟨bk⟩,⟨bl⟩⟩
     rw [if_pos c11] at H
     have i_:((rd (ah aa fS) dB) == a1)=true:=beq_iff_eq.mpr c11
     have oc:((rd (ah aa fS) dB) != a1)=false:=bne_eq_false_iff_eq.mpr c11
     clear c11
     have H':=k0 H
     clear H
     have ahJ:wr.cell? ⟨ai,0,none⟩=some (.int .i64 af):=(av ag.out 0).trans rfl
     have ahK:wr.cell? ⟨ai,1,none⟩=some (.slice aq aa.length ak):=(av ag.out 1).trans rfl
     have aik:=aD ag.out 0
     have ail:=aD ag.out 1
     have dX:0≤(fS:Int):=oD
     have dY:fS < (aa.length:Int):=oD
     obtain ⟨pG,uT,vu,e102,iw,jm,jk⟩:=cX bZ.out fS dX dY
     cases e102
     replace iw:=hbc HB iw
     have jc:=k0 jk
     have pE:=k0 jm
     clear jk jm
     replace dX:=eq_true dX
     replace dY:=eq_true dY
     have dP:0≤(dB:Int):=oD
     have dQ:dB < ((ah aa fS).length:Int):=oD
     obtain ⟨iZ,e103,alC⟩:=Kd.bJ jc.out dB dP dQ
     cases e103
     replace alC:=hbc HB alC
     replace dP:=eq_true dP
     replace dQ:=eq_true dQ
     go_wp2
     go_roundg k2
     case measure=>have:=alj.out;have:=bB.out;omega
     case rel=>exact ⟨(wrap64 (alo+1)),(wrap64 (dB+1)),rs,rs,H',⟨by have:=alj.out;have:=bB.out;omega⟩,⟨bk⟩,⟨bl⟩⟩
end Go.Proofs.Ytoebojnhchocaaa.D
/- Set with little white space, by a program. -/
