/- The functions that one law reaches, each as a Lean function, and that Go's call comes to what it says. Condition of each: that the Lean function answers (is not none). -/
import Derived.Test.YtoebojnhchocaaaCx0
import Derived.Test.YtoebojnhchocaaaCx4
import Derived.Test.YtoebojnhchocaaaCx5
import Derived.Test.YtoebojnhchocaaaCx6
import Derived.Test.YtoebojnhchocaaaCx7
namespace Go.Proofs.Ytoebojnhchocaaa.C
open Go.RowKit Go.Proofs.bI.en Go.Proofs.bI.je Go.Proofs.bI.jC
attribute [local go_sem] max2_int min2_int max_two min_two max_three min_three max_four min_four   -- for this text's walks alone
set_option linter.unusedVariables false
set_option linter.unusedSimpArgs false
/-! ### F90: function 90 -/
def bL.sy (ds o:List Int) (d:Int) (n:Nat):Bool:=(List.range n).any fun v=>rd ds (v:Int) == d && decide (rd o (v:Int) < 0)
def bL.oB (ds:List Int) (d:Int) (n:Nat):List Bool:=(List.range 8).map fun v=>decide (v < n) && decide (rd ds (v:Int) < d)
theorem bL.XA (ds o:List Int) (d:Int) (n:Nat):bL.sy ds o d (n+1)=(bL.sy ds o d n || (rd ds (n:Int) == d && decide (rd o (n:Int) < 0))):=by
 unfold bL.sy
 rw [List.range_succ,List.any_append]
 simp
theorem bL.K3 (ds:List Int) (d:Int) (n:Nat):(bL.oB ds d n).length=8:=by simp [bL.oB]
theorem bL.adX (ds:List Int) (d:Int):bL.oB ds d 0=List.replicate 8 false:=by
 unfold bL.oB
 rw [List.map_congr_left (g:=fun _=>false) (fun v _=>by simp)]
 rfl
theorem bL.adW (ds:List Int) (d:Int) (n:Nat) (h:n < 8):(bL.oB ds d n).set n (decide (rd ds (n:Int) < d))=bL.oB ds d (n+1):=by
 apply List.ext_getElem
 ·simp [bL.oB]
 ·intro j h1 h2
  rw [List.getElem_set]
  have hj:j < 8:=by simpa [bL.oB] using h1
  by_cases e:n=j
  case neg =>
   rw [if_neg e]
   simp only [bL.oB,List.getElem_map,List.getElem_range]
   rw [show decide (j < n+1)=decide (j < n) from decide_eq_decide.2 ⟨fun _=>by omega,fun _=>by omega⟩]
  subst e
  rw [if_pos rfl]
  simp [bL.oB]
theorem bL.Iu (l:List Bool) (h:l.length=8):∃ b0 b1 b2 b3 b4 b5 b6 b7:Bool,l=[b0,b1,b2,b3,b4,b5,b6,b7]:=by
 match l,h with
 | [b0,b1,b2,b3,b4,b5,b6,b7],_=>exact ⟨b0,b1,b2,b3,b4,b5,b6,b7,rfl⟩
mutual
def bL.l0 : Nat → List (List Int) → Int → List Int → List Int → Int → Option (List Int)
 | 0,_,_,_,_,_=>none
 | k+1,x0,x2,x7,x8,x9=>if x9 > 0 then (bL.l1 k x0 x2 x7 x8 x9) else (bL.l2 k x0 x2 x7)
def bL.l1 : Nat → List (List Int) → Int → List Int → List Int → Int → Option (List Int)
 | 0,_,_,_,_,_=>none
 | k+1,x0,x2,x7,x8,x9=>if (x0.length≤8∧x8.length=x0.length∧x7.length=x0.length) then (if bL.sy x8 x7 x9 x0.length=true then ((cV.fA k x0 x7 (bL.oB x8 x9 x0.length) 1).bind fun t=>bL.l1 k x0 x2 t x8 x9) else (bL.l0 k x0 x2 x7 x8 (wrap64 (x9 - 1)))) else none
def bL.l2 : Nat → List (List Int) → Int → List Int → Option (List Int)
 | 0,_,_,_=>none
 | k+1,x0,x2,x7=>(bB.fA k x0 x7 x2).bind fun p=>if p.2=true then ((cV.fA k x0 x7 p.1 1).bind fun t=>bL.l2 k x0 x2 t) else some x7
end
def bL.f (k:Nat) (l0:List (List Int)) (l1:List Int) (a2:Int):Option (List Int):=(uJ.f l1).bind fun t=>(bX.f k l0 a2).bind fun u=>bL.l0 k l0 a2 t u (l0.length:Int)
theorem bL.b8 : ∀ k, (∀ y0 y1 y2 y3 y4, aj (bL.l0 k y0 y1 y2 y3 y4) (bL.l0 (k + 1) y0 y1 y2 y3 y4)) ∧ (∀ y0 y1 y2 y3 y4, aj (bL.l1 k y0 y1 y2 y3 y4) (bL.l1 (k + 1) y0 y1 y2 y3 y4)) ∧ (∀ y0 y1 y2, aj (bL.l2 k y0 y1 y2) (bL.l2 (k + 1) y0 y1 y2))
 | 0=>⟨fun _ _ _ _ _ r h=>by simp [bL.l0] at h,fun _ _ _ _ _ r h=>by simp [bL.l1] at h,fun _ _ _ r h=>by simp [bL.l2] at h⟩
 | k+1=>by
  obtain ⟨akk,ih1,ih2⟩:=bL.b8 k
  refine ⟨?_,?_,?_⟩
  ·intro y0 y1 y2 y3 y4;unfold bL.l0;exact aj.ite (ih1 _ _ _ _ _) (ih2 _ _ _)
  ·intro y0 y1 y2 y3 y4;unfold bL.l1;exact aj.ite (aj.ite (aj.bind (cV.AL _ _ _ _ _) (fun _=>ih1 _ _ _ _ _)) (akk _ _ _ _ _)) (aj.none _)
  ·intro y0 y1 y2;unfold bL.l2;exact aj.bind (bB.AL _ _ _ _) (fun _=>aj.ite (aj.bind (cV.AL _ _ _ _ _) (fun _=>ih2 _ _ _)) (aj.refl _))
theorem bL.mono:∀ a0 a1 a2 k,aj (bL.f k a0 a1 a2) (bL.f (k+1) a0 a1 a2):=by
 intro a0 a1 a2 k
 unfold bL.f
 exact aj.bind (aj.refl _) (fun _=>aj.bind (bX.mono _ _ _) (fun _=>(bL.b8 k).1 _ _ _ _ _))
set_option maxHeartbeats 8000000 in
set_option maxRecDepth 100000 in
theorem bL.calls (k : Nat) (A0 : Option Addr) (c0 : Nat) (l0 : List (List Int)) (A1 : Option Addr) (c1 : Nat) (l1 : List Int) (a2 : Int) (r : List Int) (w : World) (dB : Kd.C (Kd.slice 2 (Kd.int .i64)) w A0 l0.length l0) (hc0 : l0.length ≤ c0) (cQ : Kd.C (Kd.int .i64) w A1 l1.length l1) (ef : l1.length ≤ c1) (h : bL.f k l0 l1 a2 = some r) :
  Calls Try.prog 90 #[.slice A0 l0.length c0,.slice A1 l1.length c1,.int .i64 a2] w fun e w'=>∃ dK:Value,e=.returned (dK)∧Kd.R (Kd.int .i64) 2 w' w.heap.size (fun _=>True) dK r∧Below w.heap.size w w':=by
 have fj:=k0 dB
 have ki:=k0 hc0
 have ek:=k0 cQ
 have jZ:=k0 ef
 have hlen:l0.length≤9223372036854775807:=dB.2.1
 clear dB hc0 cQ ef
 unfold bL.f at h
 obtain ⟨t,ht,h⟩:=Option.bind_eq_some_iff.mp h
 obtain ⟨ds,hds,h⟩:=Option.bind_eq_some_iff.mp h
 have H':=k0 h
 have AT:=k0 ht
 have AD:=k0 hds
 clear h ht hds
 go_enter Try.func90,Try.ntmps90
 go_wp2_with (first
  | (go_at_call 173;refine (uJ.calls A1 c1 l1 t _ ek.out jZ.out AT.out).mono ?_;rintro e w1 ⟨v1,rfl,vH,hb1⟩;have HO:=k0 vH;have HB:=k0 hb1;clear vH hb1)
  | (go_at_call 174;refine (bX.calls k A0 c0 l0 a2 ds _ (Kd.bA fj.out HB.out) ki.out AD.out).mono ?_;rintro e w2 ⟨v2,rfl,qj,hb2⟩;obtain ⟨Ad,cd,ed⟩:=Kd.eK qj;subst ed;have ez:=k0 (Kd.di HO.out hb2);have xN:=k0 (aI HB.out hb2);have am1:=k0 (Kd.bu qj).2.2;have HDN:=k0 (Kd.bu qj).2.1;clear qj hb2 HO HB))
 go_loopg [7,9] k (fun kq v7 v9 w'=>∃ (o:List Int) (d:Int),v9=.int .i64 d∧au (bL.l0 kq l0 a2 o ds d=some r)∧au (kq≤k)∧au (Kd.R (Kd.int .i64) 2 w' w.heap.size (fun _=>True) v7 o)∧au (Below w2.heap.size w2 w'))
 case atStart=>exact ⟨t,l0.length,rfl,H',⟨Nat.le_refl _⟩,ez,⟨Below.refl _ _⟩⟩
 case round =>
  clear H' ez
  obtain ⟨o,d,rfl,HA,akl,HO,HB⟩:=hrel
  cases gk with
  | zero=>exact absurd HA.out (by simp [bL.l0])
  | succ k1 =>
   have H:=HA.out
   clear HA
   simp only [bL.l0] at H
   by_cases z8:d > 0
   case neg =>
    rw [if_neg z8] at H
    have H6:decide (0 < d)=false:=decide_eq_false z8
    have H':=k0 H
    clear H z8
    go_wp2
    go_loopg [7] k1 (fun kq v7 w'=>∃ (o:List Int),au (bL.l2 kq l0 a2 o=some r)∧au (kq≤k1)∧au (Kd.R (Kd.int .i64) 2 w' w.heap.size (fun _=>True) v7 o)∧au (Below w2.heap.size w2 w'))
    case atStart=>exact ⟨o,H',⟨Nat.le_refl _⟩,HO,HB⟩
    case round =>
     clear H' HO HB
     obtain ⟨o,HA,bz,HO,HB⟩:=hrel
     cases gk with
     | zero=>exact absurd HA.out (by simp [bL.l2])
     | succ k2 =>
      have H:=HA.out
      clear HA
      simp only [bL.l2] at H
      obtain ⟨⟨p1,p2⟩,hp,H⟩:=Option.bind_eq_some_iff.mp H
      have AB:=k0 hp
      have D6:=k0 H
      clear hp H
      obtain ⟨Ao,co,eo⟩:=Kd.eK HO.out
      subst eo
      cases p2 with
      | false =>
       have h3:=D6.out
       simp only [Bool.false_eq_true,if_false,Option.some.injEq] at h3
       subst h3
       clear D6
       go_wp2_with (go_at_call 176;refine (bB.alQ k2 A0 c0 l0 Ao co o a2 p1 false _ (Kd.bA (Kd.bA fj.out xN.out) HB.out) ki.out (Kd.bu HO.out).2.2 (Kd.bu HO.out).2.1 AB.out).mono ?_;rintro e wb ⟨⟨rfl,Cy⟩,yt⟩;obtain ⟨b0,b1,b2,b3,b4,b5,b6,b7,rfl⟩:=bL.Iu _ Cy;have xM:=k0 (dA (aI HB.out yt) (.cells #[.bool b0,.bool b1,.bool b2,.bool b3,.bool b4,.bool b5,.bool b6,.bool b7] 133 (0,0)));have Ef:=k0 (Kd.bN (Kd.di HO.out yt) (.cells #[.bool b0,.bool b1,.bool b2,.bool b3,.bool b4,.bool b5,.bool b6,.bool b7] 133 (0,0)));clear yt Cy;simp only [List.map_cons,List.map_nil])
       go_ret
       exact ⟨_,rfl,Ef.out,aI xN.out xM.out⟩
      | true =>
       have h3:=D6.out
       simp only [if_true] at h3
       obtain ⟨t',ht',h4⟩:=Option.bind_eq_some_iff.mp h3
       have H':=k0 h4
       have AF:=k0 ht'
       clear h3 h4 ht' D6
       go_wp2_with (first|(go_at_call 176;refine (bB.alQ k2 A0 c0 l0 Ao co o a2 p1 true _ (Kd.bA (Kd.bA fj.out xN.out) HB.out) ki.out (Kd.bu HO.out).2.2 (Kd.bu HO.out).2.1 AB.out).mono ?_;rintro e wb ⟨⟨rfl,Cy⟩,yt⟩;obtain ⟨b0,b1,b2,b3,b4,b5,b6,b7,rfl⟩:=bL.Iu _ Cy;have xM:=k0 (dA (aI HB.out yt) (.cells #[.bool b0,.bool b1,.bool b2,.bool b3,.bool b4,.bool b5,.bool b6,.bool b7] 133 (0,0)));have Ef:=k0 (Kd.bN (Kd.di HO.out yt) (.cells #[.bool b0,.bool b1,.bool b2,.bool b3,.bool b4,.bool b5,.bool b6,.bool b7] 133 (0,0)));clear yt Cy;simp only [List.map_cons,List.map_nil])|(go_at_call 175;refine (cV.alQ k2 A0 c0 l0 Ao co o [b0,b1,b2,b3,b4,b5,b6,b7] 1 t' _ (Kd.bA (Kd.bA fj.out xN.out) xM.out) ki.out (Kd.bu Ef.out).2.2 (Kd.bu Ef.out).2.1 rfl AF.out).mono ?_;rintro e wf ⟨vf,rfl,CF,Ca⟩;have GZ:=k0 (Kd.dL (Kd.bG CF (fun _ _=>trivial)) (aU (aI xN.out xM.out)));have GM:=k0 (aI xM.out Ca);clear CF Ca))
       go_roundg k2
       case measure=>have fJ:=bz.out;omega
       case rel=>exact ⟨t',H',⟨by have akM:=bz.out;omega⟩,GZ,GM⟩
   rw [if_pos z8] at H
   have H6:=decide_eq_true z8
   have H':=k0 H
   clear H z8
   go_wp2
   go_loopg [7] k1 (fun kq v7 w'=>∃ (o:List Int),au (bL.l1 kq l0 a2 o ds d=some r)∧au (kq≤k1)∧au (Kd.R (Kd.int .i64) 2 w' w.heap.size (fun _=>True) v7 o)∧au (Below w2.heap.size w2 w'))
   case atStart=>exact ⟨o,H',⟨Nat.le_refl _⟩,HO,HB⟩
   case round =>
    clear H' HO HB
    obtain ⟨o,HA,bz,HO,HB⟩:=hrel
    cases gk with
    | zero=>exact absurd HA.out (by simp [bL.l1])
    | succ k2 =>
     have H:=HA.out
     clear HA
     simp only [bL.l1] at H
     replace H:=iS H;obtain ⟨cg,H⟩:=H
     have HG:=k0 cg
     have H':=k0 H
     clear H cg
     obtain ⟨Ao,co,eo⟩:=Kd.eK HO.out
     subst eo
     obtain ⟨gS,E9⟩:∃ gS,gS=wr.heap.size:=⟨_,rfl⟩
     have Fj:=Sc (P:=Try.prog) (w:=wr.alloc (.cells #[.bool false,.bool false,.bool false,.bool false,.bool false,.bool false,.bool false,.bool false] 133)) (g:=wr.heap.size) (o:=0) 133 (.agg #[.bool false,.bool false,.bool false,.bool false,.bool false,.bool false,.bool false,.bool false]) [.bool false,.bool false,.bool false,.bool false,.bool false,.bool false,.bool false,.bool false] (heap_alloc_new wr _) rfl (by kernel_rfl) (by simp) (by simp [Value.oneCell'])
     have ML:=k0 Fj
     clear Fj
     go_wp2_with ((with_reducible refine lf (t:=133) (p:=11) rfl ?_);refine lq (t:=133) (p:=11) (v:=?aeH) (w1:=(wr.alloc (.cells #[.bool false,.bool false,.bool false,.bool false,.bool false,.bool false,.bool false,.bool false] 133)).setCells wr.heap.size 0 [.bool false,.bool false,.bool false,.bool false,.bool false,.bool false,.bool false,.bool false]) ?hg ?ho ?hn ?hr ?_;(case ho=>rfl);(case hg=>rfl);(case hn=>rfl);(case hr=>(unfold execOp;dsimp only;(show Sem.run Try.prog (do Instr.storeAt 133 (Value.pointer (some ⟨wr.heap.size,0,none⟩)) (.agg #[.bool false,.bool false,.bool false,.bool false,.bool false,.bool false,.bool false,.bool false]);pure Next.skip) (wr.alloc (.cells #[.bool false,.bool false,.bool false,.bool false,.bool false,.bool false,.bool false,.bool false] 133))=_);rw [Sem.run_bind,ML.out];rfl));intro wz QX;have HW:=k0 QX;clear QX)
     obtain ⟨EJ,wV,O5,E2⟩:=uA [.bool false,.bool false,.bool false,.bool false,.bool false,.bool false,.bool false,.bool false] 0 (wr.alloc (.cells #[.bool false,.bool false,.bool false,.bool false,.bool false,.bool false,.bool false,.bool false] 133)) _ (heap_alloc_new wr _) (by simp)
     have E3:EJ=((bL.oB ds d 0).map Value.bool).toArray:=Array.toList_inj.1 (by rw [E2,bL.adX];rfl)
     rw [E3] at wV
     have Ar:Below wr.heap.size wr ((wr.alloc (.cells #[.bool false,.bool false,.bool false,.bool false,.bool false,.bool false,.bool false,.bool false] 133)).setCells wr.heap.size 0 [.bool false,.bool false,.bool false,.bool false,.bool false,.bool false,.bool false,.bool false]):=by
      have alL:=Nat.le_refl wr.heap.size
      simp only [World.setCells]
      exact dM (dM (dM (dM (dM (dM (dM (dM (dA (Below.refl _ wr) _) alL) alL) alL) alL) alL) alL) alL) alL
     rw [← HW.out] at wV Ar
     have BK:=k0 wV
     have BB:=k0 Ar
     clear HW ML wV E2 E3 O5 EJ Ar
     rw [← E9] at BK ⊢
     obtain ⟨wA,QW⟩:∃ wA,wA=wr:=⟨_,rfl⟩
     rw [← QW] at BB E9 HB HO
     have T_:=k0 E9
     clear E9 QW
     have ahQ:l0.length≤8:=HG.out.1
     go_loopw [10,12] (fun v10 i wq=>∃ k':Nat,k'≤l0.length∧i=.int .i64 k'∧v10=.bool (bL.sy ds o d k')∧au (wq.heap[gS]?=some (.cells ((bL.oB ds d k').map Value.bool).toArray 133 (0,0)))∧au (Below wA.heap.size wA wq)) (fun _ i _=>l0.length - (intOf i).toNat)
     case atStart=>exact ⟨0,Nat.zero_le _,rfl,rfl,BK,BB⟩
     case round =>
      clear BK BB
      obtain ⟨k',hk,rfl,rfl,BK,BB⟩:=hrel
      by_cases hlt:k' < l0.length
      case neg =>
       obtain rfl:k'=l0.length:=by omega
       have Qn:decide ((l0.length:Int) < (l0.length:Int))=false:=by simp
       have zF:=k0 (aI HB.out BB.out)
       have HOr:=k0 (Kd.di HO.out BB.out)
       have H:=H'.out
       clear H' hlt
       cases hbd:bL.sy ds o d l0.length with
       | false =>
        rw [hbd] at H
        simp only [Bool.false_eq_true,if_false] at H
        have H':=k0 H
        clear H
        go_wp2
        go_roundg k2
        case measure=>have fJ:=bz.out;omega
        case rel=>exact ⟨o,wrap64 (d - 1),rs,H',⟨by have fJ:=akl.out;have akM:=bz.out;omega⟩,HOr,zF⟩
       | true =>
        rw [hbd] at H
        simp only [if_true] at H
        obtain ⟨t',ht',H⟩:=Option.bind_eq_some_iff.mp H
        have H':=k0 H
        have AF:=k0 ht'
        clear H ht'
        obtain ⟨b0,b1,b2,b3,b4,b5,b6,b7,O4⟩:=bL.Iu _ (bL.K3 ds d l0.length)
        rw [O4] at BK AF
        have q0:wr.cell? ⟨gS,0,none⟩=some (.bool b0):=(av BK.out 0).trans rfl
        have q1:wr.cell? ⟨gS,1,none⟩=some (.bool b1):=(av BK.out 1).trans rfl
        have q2:wr.cell? ⟨gS,2,none⟩=some (.bool b2):=(av BK.out 2).trans rfl
        have q3:wr.cell? ⟨gS,3,none⟩=some (.bool b3):=(av BK.out 3).trans rfl
        have q4:wr.cell? ⟨gS,4,none⟩=some (.bool b4):=(av BK.out 4).trans rfl
        have q5:wr.cell? ⟨gS,5,none⟩=some (.bool b5):=(av BK.out 5).trans rfl
        have q6:wr.cell? ⟨gS,6,none⟩=some (.bool b6):=(av BK.out 6).trans rfl
        have q7:wr.cell? ⟨gS,7,none⟩=some (.bool b7):=(av BK.out 7).trans rfl
        clear O4
        go_wp2_with (go_at_call 175;refine (cV.alQ k2 A0 c0 l0 (Ao) co o [b0,b1,b2,b3,b4,b5,b6,b7] 1 t' _ (Kd.bA (Kd.bA fj.out xN.out) zF.out) ki.out (Kd.bu HOr.out).2.2 (Kd.bu HOr.out).2.1 rfl AF.out).mono ?_;rintro e wf ⟨vf,rfl,CF,Ca⟩;have GZ:=k0 (Kd.bG CF (fun _ _=>trivial));have GM:=k0 (aI zF.out Ca);clear CF Ca)
        go_roundg k2
        case measure=>have fJ:=bz.out;omega
        case rel=>exact ⟨t',H',⟨by have akM:=bz.out;omega⟩,⟨Kd.dL GZ.out (aU (aI xN.out zF.out))⟩,GM⟩
      have zF:Below w2.heap.size w2 wr:=aI HB.out BB.out
      obtain ⟨ad,e,hcd⟩:=Kd.bH (Kd.bA am1.out zF) k' (by omega) (by have h_:=HG.out.2.1;omega)
      cases e
      obtain ⟨ao,e,E4⟩:=Kd.bH (Kd.bA (Kd.bu HO.out).2.2 BB.out) k' (by omega) (by have h_:=HG.out.2.2;omega)
      cases e
      rw [Int.toNat_natCast] at hcd E4
      have JW:k' < 8:=by omega
      have hq:wr.cell? ⟨gS,k',none⟩=some (.bool ((bL.oB ds d k').getD k' false)):=by
       rw [av BK.out k',List.getD_eq_getElem?_getD,List.getElem?_eq_getElem (by rw [bL.K3];exact JW)]
       simp [bL.K3,JW]
      have hf:wr.frozen? ⟨gS,k',none⟩=false:=aH BK.out k'
      have hS:∀ W,W=wr.setCell ⟨gS,k',none⟩ (.bool (decide (rd ds k' < d)))→au (W.heap[gS]?=some (.cells ((bL.oB ds d (k'+1)).map Value.bool).toArray 133 (0,0))):=by
       intro W hW
       subst hW
       exact ⟨by rw [Ew BK.out k' (Value.bool (decide (rd ds k' < d))),← bL.adW ds d k' JW];simp [List.map_set]⟩
      have Y0:au (Below wA.heap.size wA (wr.setCell ⟨gS,k',none⟩ (.bool (decide (rd ds k' < d))))):=⟨dM BB.out (Nat.le_of_eq T_.out.symm)⟩
      have hS:=hS _ rfl
      have hkd:k' < ds.length:=by have h_:=HG.out.2.1;omega
      have hko:k' < o.length:=by have h_:=HG.out.2.2;omega
      have hdn:=bL.XA ds o d k'
      have Qn:decide ((k':Int) < (l0.length:Int))=true:=decide_eq_true (by omega)
      cases hbd:bL.sy ds o d k'<;>cases ZH:(rd ds k' == d)<;>cases ZJ:decide (rd o k' < 0)<;>simp only [hbd,ZH,ZJ,Bool.or_true,Bool.or_false,Bool.true_and,Bool.false_and,Bool.and_true,Bool.and_false,Bool.true_or,Bool.false_or] at hdn
      all_goals (
       go_wp2_with fail
       go_roundw
       case rel=>exact ⟨k'+1,by omega,by go_num,by rw [hdn],hS,Y0⟩
       case measure=>simp [intOf];omega)
/-! ### F201: function 201 -/
def zE.f (af:Int) (aa:List (List Int)) (a1:Int):Option (Int × Int):=if 0≤(wrap64 (Int.tdiv a1 2)) then (if (wrap64 (Int.tdiv a1 2)) < (aa.length:Int) then (if (Int.tmod a1 2)=1 then (if 1 < ((ah aa (wrap64 (Int.tdiv a1 2))).length:Int) then (if 0 < ((ah aa (wrap64 (Int.tdiv a1 2))).length:Int) then (some (rd (ah aa (wrap64 (Int.tdiv a1 2))) 1,rd (ah aa (wrap64 (Int.tdiv a1 2))) 0)) else (none)) else (none)) else (if 0 < ((ah aa (wrap64 (Int.tdiv a1 2))).length:Int) then (if 1 < ((ah aa (wrap64 (Int.tdiv a1 2))).length:Int) then (some (rd (ah aa (wrap64 (Int.tdiv a1 2))) 0,rd (ah aa (wrap64 (Int.tdiv a1 2))) 1)) else (none)) else (none))) else (none)) else (none)
set_option maxHeartbeats 8000000 in
set_option maxRecDepth 100000 in
theorem zE.calls (af : Int) (aq : Option Addr) (ak : Nat) (aa : List (List Int)) (a1 : Int) (r1 : Int) (r2 : Int) (w : World) (akv : Kd.C (Kd.slice 2 (Kd.int .i64)) w aq aa.length aa) (akw : aa.length ≤ ak) (h : zE.f af aa a1 = some (r1, r2)) :
  Calls Try.prog 201 #[.agg #[.int .i64 af,.slice aq aa.length ak],.int .i64 a1] w fun e w'=>e=.returned (.tuple #[.int .i64 r1,.int .i64 r2])∧Below w.heap.size w w':=by
 have j8:=Try.underlying31
 have bU:=k0 akv
 have cG:=k0 akw
 clear akv akw
 have HB:=k0 (Below.refl w.heap.size w)
 have H:(if 0≤(wrap64 (Int.tdiv a1 2)) then (if (wrap64 (Int.tdiv a1 2)) < (aa.length:Int) then (if (Int.tmod a1 2)=1 then (if 1 < ((ah aa (wrap64 (Int.tdiv a1 2))).length:Int) then (if 0 < ((ah aa (wrap64 (Int.tdiv a1 2))).length:Int) then (some (rd (ah aa (wrap64 (Int.tdiv a1 2))) 1,rd (ah aa (wrap64 (Int.tdiv a1 2))) 0)) else (none)) else (none)) else (if 0 < ((ah aa (wrap64 (Int.tdiv a1 2))).length:Int) then (if 1 < ((ah aa (wrap64 (Int.tdiv a1 2))).length:Int) then (some (rd (ah aa (wrap64 (Int.tdiv a1 2))) 0,rd (ah aa (wrap64 (Int.tdiv a1 2))) 1)) else (none)) else (none))) else (none)) else (none))=some (r1,r2):=h
 clear h
 obtain ⟨eg,Cx⟩:∃ j_:Int,(wrap64 (Int.tdiv a1 2))=j_:=⟨_,rfl⟩
 replace H:(if 0≤(eg) then (if (eg) < (aa.length:Int) then (if (Int.tmod a1 2)=1 then (if 1 < ((ah aa (eg)).length:Int) then (if 0 < ((ah aa (eg)).length:Int) then (some (rd (ah aa (eg)) 1,rd (ah aa (eg)) 0)) else (none)) else (none)) else (if 0 < ((ah aa (eg)).length:Int) then (if 1 < ((ah aa (eg)).length:Int) then (some (rd (ah aa (eg)) 0,rd (ah aa (eg)) 1)) else (none)) else (none))) else (none)) else (none))=some (r1,r2):=by first|(rw [Cx] at H;exact H)|(simp only [Cx] at H ⊢;exact H)
 have ahL:(IntKind.i64.wrap (Int.tdiv a1 2))=eg:=(akx _).trans Cx
 replace H:=iS H;obtain ⟨c4,H⟩:=H
 have eA:=decide_eq_true c4
 clear c4
 replace H:=iS H;obtain ⟨c5,H⟩:=H
 have iW:=decide_eq_true c5
 clear c5
 by_cases c6:(Int.tmod a1 2)=1
 case neg =>
  rw [if_neg c6] at H
  have akJ:((Int.tmod a1 2) == 1)=false:=beq_eq_false_iff_ne.mpr c6
  have alP:((Int.tmod a1 2) != 1)=true:=bne_iff_ne.mpr c6
  replace H:=iS H;obtain ⟨c11,H⟩:=H
  have mz:=decide_eq_true c11
  have sq:decide (0 < (ah aa (eg)).length)=true:=decide_eq_true (by omega)
  clear c11
  replace H:=iS H;obtain ⟨c12,H⟩:=H
  have rG:=decide_eq_true c12
  have z1:decide (1 < (ah aa (eg)).length)=true:=decide_eq_true (by omega)
  clear c12
  simp only [Option.some.injEq,Prod.mk.injEq] at H
  obtain ⟨rfl,rfl⟩:=H
  go_enter Try.func201,Try.ntmps201
  go_wp2_with (first|((with_reducible refine cj (N:=2) rfl ?_);refine dJ ?hg (N:=2) ?hd (cs:=#[.int .i64 af,.slice aq aa.length ak]) (t:=31) ?hr ?_;(case hd=>rfl);(case hg=>rfl);(case hr=>first|(go_simp;done)|(go_simp;rfl));intro ai hg oY aK hb;have ag:=k0 (aK);have aks:=k0 ((by rw [hg];exact (aU bl):w.heap.size≤ai));have ej:=aks;replace HB:=k0 (aI bl hb);clear hb aK hg;have wX:oY.cell? ⟨ai,0,none⟩=some (.int .i64 af):=(av ag.out 0).trans rfl;have wY:oY.cell? ⟨ai,1,none⟩=some (.slice aq aa.length ak):=(av ag.out 1).trans rfl;have alH:=aH ag.out 0;have alI:=aH ag.out 1;have dr:0≤((eg):Int):=oD;have dw:(eg) < (aa.length:Int):=oD;obtain ⟨oa,uE,uX,e102,akN,jr,jo⟩:=cW bU.out (eg) dr dw;cases e102;replace akN:=hbc HB akN;have jh:=k0 jo;have o5:=k0 jr;clear jo jr;replace dr:=eq_true dr;replace dw:=eq_true dw;have cX:0≤(0:Int):=(by omega);have cU:0 < ((ah aa (eg)).length:Int):=oD;obtain ⟨kr,e105,dY⟩:=Kd.bH jh.out 0 cX cU;cases e105;have DC:(0 < (ah aa (eg)).length)=True:=eq_true (by omega);(try rw [show ((0:Int)).toNat=0 from rfl] at dY);(try rw [Addr.add_zero'] at dY);replace dY:=hbc HB dY;replace cX:=eq_true cX;replace cU:=eq_true cU;have dN:0≤(1:Int):=(by omega);have dH:1 < ((ah aa (eg)).length:Int):=oD;obtain ⟨gB,e106,dF⟩:=Kd.bH jh.out 1 dN dH;obtain rfl:kr=gB:=(by injection e106);(try simp only [show (1:Int).toNat=1 from rfl,Nat.reduceMul,Nat.reduceEqDiff,Go.Addr.add,↓reduceIte] at dF);have AP:(1 < (ah aa (eg)).length)=True:=eq_true (by omega);(try rw [show ((1:Int)).toNat=1 from rfl] at dF);replace dF:=hbc HB dF;replace dN:=eq_true dN;replace dH:=eq_true dH))
  repeat (go_quiet (first|((with_reducible refine cj (N:=2) rfl ?_);refine dJ ?hg (N:=2) ?hd (cs:=#[.int .i64 af,.slice aq aa.length ak]) (t:=31) ?hr ?_;(case hd=>rfl);(case hg=>rfl);(case hr=>first|(go_simp;done)|(go_simp;rfl));intro ai hg oY aK hb;have ag:=k0 (aK);have aks:=k0 ((by rw [hg];exact (aU bl):w.heap.size≤ai));have ej:=aks;replace HB:=k0 (aI bl hb);clear hb aK hg;have wX:oY.cell? ⟨ai,0,none⟩=some (.int .i64 af):=(av ag.out 0).trans rfl;have wY:oY.cell? ⟨ai,1,none⟩=some (.slice aq aa.length ak):=(av ag.out 1).trans rfl;have alH:=aH ag.out 0;have alI:=aH ag.out 1;have dr:0≤((eg):Int):=oD;have dw:(eg) < (aa.length:Int):=oD;obtain ⟨oa,uE,uX,e102,akN,jr,jo⟩:=cW bU.out (eg) dr dw;cases e102;replace akN:=hbc HB akN;have jh:=k0 jo;have o5:=k0 jr;clear jo jr;replace dr:=eq_true dr;replace dw:=eq_true dw;have cX:0≤(0:Int):=(by omega);have cU:0 < ((ah aa (eg)).length:Int):=oD;obtain ⟨kr,e105,dY⟩:=Kd.bH jh.out 0 cX cU;cases e105;have DC:(0 < (ah aa (eg)).length)=True:=eq_true (by omega);(try rw [show ((0:Int)).toNat=0 from rfl] at dY);(try rw [Addr.add_zero'] at dY);replace dY:=hbc HB dY;replace cX:=eq_true cX;replace cU:=eq_true cU;have dN:0≤(1:Int):=(by omega);have dH:1 < ((ah aa (eg)).length:Int):=oD;obtain ⟨gB,e106,dF⟩:=Kd.bH jh.out 1 dN dH;obtain rfl:kr=gB:=(by injection e106);(try simp only [show (1:Int).toNat=1 from rfl,Nat.reduceMul,Nat.reduceEqDiff,Go.Addr.add,↓reduceIte] at dF);have AP:(1 < (ah aa (eg)).length)=True:=eq_true (by omega);(try rw [show ((1:Int)).toNat=1 from rfl] at dF);replace dF:=hbc HB dF;replace dN:=eq_true dN;replace dH:=eq_true dH));try go_wp2_with (first|((with_reducible refine cj (N:=2) rfl ?_);refine dJ ?hg (N:=2) ?hd (cs:=#[.int .i64 af,.slice aq aa.length ak]) (t:=31) ?hr ?_;(case hd=>rfl);(case hg=>rfl);(case hr=>first|(go_simp;done)|(go_simp;rfl));intro ai hg oY aK hb;have ag:=k0 (aK);have aks:=k0 ((by rw [hg];exact (aU bl):w.heap.size≤ai));have ej:=aks;replace HB:=k0 (aI bl hb);clear hb aK hg;have wX:oY.cell? ⟨ai,0,none⟩=some (.int .i64 af):=(av ag.out 0).trans rfl;have wY:oY.cell? ⟨ai,1,none⟩=some (.slice aq aa.length ak):=(av ag.out 1).trans rfl;have alH:=aH ag.out 0;have alI:=aH ag.out 1;have dr:0≤((eg):Int):=oD;have dw:(eg) < (aa.length:Int):=oD;obtain ⟨oa,uE,uX,e102,akN,jr,jo⟩:=cW bU.out (eg) dr dw;cases e102;replace akN:=hbc HB akN;have jh:=k0 jo;have o5:=k0 jr;clear jo jr;replace dr:=eq_true dr;replace dw:=eq_true dw;have cX:0≤(0:Int):=(by omega);have cU:0 < ((ah aa (eg)).length:Int):=oD;obtain ⟨kr,e105,dY⟩:=Kd.bH jh.out 0 cX cU;cases e105;have DC:(0 < (ah aa (eg)).length)=True:=eq_true (by omega);(try rw [show ((0:Int)).toNat=0 from rfl] at dY);(try rw [Addr.add_zero'] at dY);replace dY:=hbc HB dY;replace cX:=eq_true cX;replace cU:=eq_true cU;have dN:0≤(1:Int):=(by omega);have dH:1 < ((ah aa (eg)).length:Int):=oD;obtain ⟨gB,e106,dF⟩:=Kd.bH jh.out 1 dN dH;obtain rfl:kr=gB:=(by injection e106);(try simp only [show (1:Int).toNat=1 from rfl,Nat.reduceMul,Nat.reduceEqDiff,Go.Addr.add,↓reduceIte] at dF);have AP:(1 < (ah aa (eg)).length)=True:=eq_true (by omega);(try rw [show ((1:Int)).toNat=1 from rfl] at dF);replace dF:=hbc HB dF;replace dN:=eq_true dN;replace dH:=eq_true dH)))
  go_ret2
  exact ⟨by first|rfl|(simp [bq,bt]<;>rfl)|(simp only [← Cx];first|rfl|(simp [bq,bt]<;>rfl))|(simp [*,bq,bt]<;>rfl),bl⟩
 rw [if_pos c6] at H
 have akJ:((Int.tmod a1 2) == 1)=true:=beq_iff_eq.mpr c6
 have alP:((Int.tmod a1 2) != 1)=false:=bne_eq_false_iff_eq.mpr c6
 clear c6
 replace H:=iS H;obtain ⟨c7,H⟩:=H
 have gK:=decide_eq_true c7
 have wJ:decide (1 < (ah aa (eg)).length)=true:=decide_eq_true (by omega)
 clear c7
 replace H:=iS H;obtain ⟨c8,H⟩:=H
 have iX:=decide_eq_true c8
 have BG:decide (0 < (ah aa (eg)).length)=true:=decide_eq_true (by omega)
 clear c8
 simp only [Option.some.injEq,Prod.mk.injEq] at H
 obtain ⟨rfl,rfl⟩:=H
 go_enter Try.func201,Try.ntmps201
 go_wp2_with (first|((with_reducible refine cj (N:=2) rfl ?_);refine dJ ?hg (N:=2) ?hd (cs:=#[.int .i64 af,.slice aq aa.length ak]) (t:=31) ?hr ?_;(case hd=>rfl);(case hg=>rfl);(case hr=>first|(go_simp;done)|(go_simp;rfl));intro ai hg w9 aK hb;have ag:=k0 (aK);have aks:=k0 ((by rw [hg];exact (aU bl):w.heap.size≤ai));have ej:=aks;replace HB:=k0 (aI bl hb);clear hb aK hg;have ud:w9.cell? ⟨ai,0,none⟩=some (.int .i64 af):=(av ag.out 0).trans rfl;have ue:w9.cell? ⟨ai,1,none⟩=some (.slice aq aa.length ak):=(av ag.out 1).trans rfl;have uj:=aH ag.out 0;have uk:=aH ag.out 1;have dr:0≤((eg):Int):=oD;have dw:(eg) < (aa.length:Int):=oD;obtain ⟨oa,uE,uX,e102,akN,jr,jo⟩:=cW bU.out (eg) dr dw;cases e102;replace akN:=hbc HB akN;have jh:=k0 jo;have o5:=k0 jr;clear jo jr;replace dr:=eq_true dr;replace dw:=eq_true dw;have dQ:0≤(1:Int):=(by omega);have dR:1 < ((ah aa (eg)).length:Int):=oD;obtain ⟨jf,e103,er⟩:=Kd.bH jh.out 1 dQ dR;cases e103;(try simp only [show (1:Int).toNat=1 from rfl,Nat.reduceMul,Nat.reduceEqDiff,Go.Addr.add,↓reduceIte] at er);have RZ:(1 < (ah aa (eg)).length)=True:=eq_true (by omega);(try rw [show ((1:Int)).toNat=1 from rfl] at er);replace er:=hbc HB er;replace dQ:=eq_true dQ;replace dR:=eq_true dR;have cS:0≤(0:Int):=(by omega);have cT:0 < ((ah aa (eg)).length:Int):=oD;obtain ⟨ko,e104,cM⟩:=Kd.bH jh.out 0 cS cT;obtain rfl:jf=ko:=(by injection e104);have DB:(0 < (ah aa (eg)).length)=True:=eq_true (by omega);(try rw [show ((0:Int)).toNat=0 from rfl] at cM);(try rw [Addr.add_zero'] at cM);replace cM:=hbc HB cM;replace cS:=eq_true cS;replace cT:=eq_true cT))
 repeat (go_quiet (first|((with_reducible refine cj (N:=2) rfl ?_);refine dJ ?hg (N:=2) ?hd (cs:=#[.int .i64 af,.slice aq aa.length ak]) (t:=31) ?hr ?_;(case hd=>rfl);(case hg=>rfl);(case hr=>first|(go_simp;done)|(go_simp;rfl));intro ai hg w9 aK hb;have ag:=k0 (aK);have aks:=k0 ((by rw [hg];exact (aU bl):w.heap.size≤ai));have ej:=aks;replace HB:=k0 (aI bl hb);clear hb aK hg;have ud:w9.cell? ⟨ai,0,none⟩=some (.int .i64 af):=(av ag.out 0).trans rfl;have ue:w9.cell? ⟨ai,1,none⟩=some (.slice aq aa.length ak):=(av ag.out 1).trans rfl;have uj:=aH ag.out 0;have uk:=aH ag.out 1;have dr:0≤((eg):Int):=oD;have dw:(eg) < (aa.length:Int):=oD;obtain ⟨oa,uE,uX,e102,akN,jr,jo⟩:=cW bU.out (eg) dr dw;cases e102;replace akN:=hbc HB akN;have jh:=k0 jo;have o5:=k0 jr;clear jo jr;replace dr:=eq_true dr;replace dw:=eq_true dw;have dQ:0≤(1:Int):=(by omega);have dR:1 < ((ah aa (eg)).length:Int):=oD;obtain ⟨jf,e103,er⟩:=Kd.bH jh.out 1 dQ dR;cases e103;(try simp only [show (1:Int).toNat=1 from rfl,Nat.reduceMul,Nat.reduceEqDiff,Go.Addr.add,↓reduceIte] at er);have RZ:(1 < (ah aa (eg)).length)=True:=eq_true (by omega);(try rw [show ((1:Int)).toNat=1 from rfl] at er);replace er:=hbc HB er;replace dQ:=eq_true dQ;replace dR:=eq_true dR;have cS:0≤(0:Int):=(by omega);have cT:0 < ((ah aa (eg)).length:Int):=oD;obtain ⟨ko,e104,cM⟩:=Kd.bH jh.out 0 cS cT;obtain rfl:jf=ko:=(by injection e104);have DB:(0 < (ah aa (eg)).length)=True:=eq_true (by omega);(try rw [show ((0:Int)).toNat=0 from rfl] at cM);(try rw [Addr.add_zero'] at cM);replace cM:=hbc HB cM;replace cS:=eq_true cS;replace cT:=eq_true cT));try go_wp2_with (first|((with_reducible refine cj (N:=2) rfl ?_);refine dJ ?hg (N:=2) ?hd (cs:=#[.int .i64 af,.slice aq aa.length ak]) (t:=31) ?hr ?_;(case hd=>rfl);(case hg=>rfl);(case hr=>first|(go_simp;done)|(go_simp;rfl));intro ai hg w9 aK hb;have ag:=k0 (aK);have aks:=k0 ((by rw [hg];exact (aU bl):w.heap.size≤ai));have ej:=aks;replace HB:=k0 (aI bl hb);clear hb aK hg;have ud:w9.cell? ⟨ai,0,none⟩=some (.int .i64 af):=(av ag.out 0).trans rfl;have ue:w9.cell? ⟨ai,1,none⟩=some (.slice aq aa.length ak):=(av ag.out 1).trans rfl;have uj:=aH ag.out 0;have uk:=aH ag.out 1;have dr:0≤((eg):Int):=oD;have dw:(eg) < (aa.length:Int):=oD;obtain ⟨oa,uE,uX,e102,akN,jr,jo⟩:=cW bU.out (eg) dr dw;cases e102;replace akN:=hbc HB akN;have jh:=k0 jo;have o5:=k0 jr;clear jo jr;replace dr:=eq_true dr;replace dw:=eq_true dw;have dQ:0≤(1:Int):=(by omega);have dR:1 < ((ah aa (eg)).length:Int):=oD;obtain ⟨jf,e103,er⟩:=Kd.bH jh.out 1 dQ dR;cases e103;(try simp only [show (1:Int).toNat=1 from rfl,Nat.reduceMul,Nat.reduceEqDiff,Go.Addr.add,↓reduceIte] at er);have RZ:(1 < (ah aa (eg)).length)=True:=eq_true (by omega);(try rw [show ((1:Int)).toNat=1 from rfl] at er);replace er:=hbc HB er;replace dQ:=eq_true dQ;replace dR:=eq_true dR;have cS:0≤(0:Int):=(by omega);have cT:0 < ((ah aa (eg)).length:Int):=oD;obtain ⟨ko,e104,cM⟩:=Kd.bH jh.out 0 cS cT;obtain rfl:jf=ko:=(by injection e104);have DB:(0 < (ah aa (eg)).length)=True:=eq_true (by omega);(try rw [show ((0:Int)).toNat=0 from rfl] at cM);(try rw [Addr.add_zero'] at cM);replace cM:=hbc HB cM;replace cS:=eq_true cS;replace cT:=eq_true cT)))
 go_ret2
 exact ⟨by first|rfl|(simp [bq,bt]<;>rfl)|(simp only [← Cx];first|rfl|(simp [bq,bt]<;>rfl))|(simp [*,bq,bt]<;>rfl),bl⟩
/-! ### F120: function 120 -/
mutual
def eX.l0 : Nat → List (List Int) → Int → Int → List (List Int) → Option ((List (List Int)))
 | 0,_,_,_,_=>none
 | k+1,x3,x4,bR,bJ=>if x4 < bR then (if 0≤bR then (if (bR:Int).toNat≤35184372088832 then (if x3.length < 5864062014805 then (eX.l0 k (x3 ++ [(List.replicate (bR:Int).toNat 0)]) (wrap64 (x4+1)) bR bJ) else (none)) else (none)) else (none)) else (eX.l1 k x3 0 bR bJ)
def eX.l1 : Nat → List (List Int) → Int → Int → List (List Int) → Option ((List (List Int)))
 | 0,_,_,_,_=>none
 | k+1,x3,x5,bR,bJ=>if x5 < (wrap64 (2 * (bJ.length:Int))) then ((zE.f bR bJ x5).bind fun tX=>(if 0≤tX.1 then (if tX.1 < (x3.length:Int) then (if 0≤tX.2 then (if tX.2 < ((ah x3 tX.1).length:Int) then (eX.l1 k (x3.set (tX.1:Int).toNat ((ah x3 tX.1).set (tX.2:Int).toNat (wrap64 ((rd (ah x3 tX.1) tX.2)+1)))) (wrap64 (x5+1)) bR bJ) else (none)) else (none)) else (none)) else (none))) else (some x3)
end
def eX.f (k:Nat) (af:Int) (aa:List (List Int)):Option ((List (List Int))):=eX.l0 k (([]:List (List Int))) 0 af aa
theorem eX.b8 : ∀ k, (∀ y0 y1 y2 y3, aj (eX.l0 k y0 y1 y2 y3) (eX.l0 (k + 1) y0 y1 y2 y3)) ∧ (∀ y0 y1 y2 y3, aj (eX.l1 k y0 y1 y2 y3) (eX.l1 (k + 1) y0 y1 y2 y3))
 | 0=>⟨fun _ _ _ _ r h=>by simp [eX.l0] at h,fun _ _ _ _ r h=>by simp [eX.l1] at h⟩
 | k+1=>by
  obtain ⟨akk,ih1⟩:=eX.b8 k
  refine ⟨?_, ?_⟩ <;> intros <;> (first | unfold eX.l0 | unfold eX.l1) <;> repeat' first
   | (with_reducible first|exact akk _ _ _ _|exact ih1 _ _ _ _|exact aj.refl _|exact aj.none _|refine aj.ite ?_ ?_|refine aj.bind ?_ (fun _=>?_))
   | exact akk _ _ _ _|exact ih1 _ _ _ _|exact aj.none _|refine aj.ite ?_ ?_|refine aj.bind ?_ (fun _=>?_)
theorem eX.mono:∀ a0 a1 k,aj (eX.f k a0 a1) (eX.f (k+1) a0 a1):=by
 intro a0 a1 k
 obtain ⟨akk,ih1⟩:=eX.b8 k
 unfold eX.f
 repeat' first
  | (with_reducible first|exact akk _ _ _ _|exact ih1 _ _ _ _|exact aj.refl _|exact aj.none _|refine aj.ite ?_ ?_|refine aj.bind ?_ (fun _=>?_))
  | exact akk _ _ _ _|exact ih1 _ _ _ _|exact aj.none _|refine aj.ite ?_ ?_|refine aj.bind ?_ (fun _=>?_)
set_option maxHeartbeats 8000000 in
set_option maxRecDepth 100000 in
theorem eX.calls (k : Nat) (af : Int) (aq : Option Addr) (ak : Nat) (aa : List (List Int)) (r : List (List Int)) (w : World) (akv : Kd.C (Kd.slice 2 (Kd.int .i64)) w aq aa.length aa) (akw : aa.length ≤ ak) (h : eX.f k af aa = some r) :
  Calls Try.prog 120 #[.agg #[.int .i64 af,.slice aq aa.length ak]] w fun e w'=>∃ dK:Value,e=.returned (dK)∧Kd.S (Kd.slice 2 (Kd.int .i64)) 28 w' w.heap.size (fun _=>True) dK r∧Below w.heap.size w w':=by
 have j8:=Try.underlying31
 have bU:=k0 akv
 have cG:=k0 akw
 clear akv akw
 have HB:=k0 (Below.refl w.heap.size w)
 have H:(eX.l0 k (([]:List (List Int))) 0 af aa)=some r:=h
 clear h
 obtain ⟨eW,eL⟩:∃ y_:List (List Int),y_=(([]:List (List Int))):=⟨_,rfl⟩
 replace H:(eX.l0 k eW 0 af aa)=some r:=by first|(rw [eL];with_reducible exact H)|(have ay:=(Option.bind_some _ _).symm.trans H;rw [eL];with_reducible exact ay)|(have ay:=(Option.bind_some _ _).symm.trans H;with_reducible exact ay)|with_reducible exact H|(rw [eL];exact H)|exact H
 have gA:=k0 eL
 clear eL
 have H':=k0 H
 clear H
 go_enter Try.func120,Try.ntmps120
 go_wp2_with (first|((with_reducible refine cj (N:=1) rfl ?_);refine dJ ?hg (N:=1) ?hd (cs:=#[.int .i64 af,.slice aq aa.length ak]) (t:=31) ?hr ?_;(case hd=>rfl);(case hg=>rfl);(case hr=>first|(go_simp;done)|(go_simp;rfl));intro ai hg w2 aK hb;have ag:=k0 (aK);have aks:=k0 ((by rw [hg];exact (aU bl):w.heap.size≤ai));have ej:=aks;replace HB:=k0 (aI bl hb);clear hb aK hg)|((with_reducible refine cj (N:=9) rfl ?_);refine Kd.Bn (Kd.slice 2 (Kd.int .i64)) _ 28 ?hg (N:=9) ?hd (xs:=([]:List (List Int))) (inner:=[]) (ok:=fun _=>True) (cA:=fun _=>True) ?hr ?hp (fun _ hk=>hk) trivial (Below.refl _ _) (Nat.le_refl _) (by simp) ?_;(case hd=>rfl);(case hg=>rfl);(case hr=>first|(go_simp;done)|(go_simp;rfl));(case hp=>exact (bS.none _ _));intro dx w3 ep hb eB eC;clear eB eC;(first|rw [← gA.out] at ep|(simp only [Int.reduceToNat] at ep;rw [← gA.out] at ep));have bh:=k0 (Kd.ak0 ep (aU bl));replace ag:=k0 (akj (g:=ai) (o:=sO af aq aa ak 31) bk hb);replace HB:=k0 (aI bl hb);clear hb ep))
 go_loopg [3,4] k (fun kq v3 v4 w'=>∃ (bD:List (List Int)) (bg:Int),v4=.int .i64 bg∧au (eX.l0 kq bD bg af aa=some r)∧au (kq≤k)∧au (Kd.S (Kd.slice 2 (Kd.int .i64)) 28 w' w.heap.size (fun _=>True) v3 bD)∧au (w'.heap[ai]?=some (sO af aq aa ak 31))∧au (Below w.heap.size w w'))
 case atStart=>exact ⟨(eW),(0),rs,H',⟨Nat.le_refl _⟩,⟨aS (bh.out)⟩,⟨bk⟩,⟨bl⟩⟩
 case round =>
  clear H'
  obtain ⟨bD,bg,rfl,HA,akl,az,ag,HB⟩:=hrel
  cases gk with
  | zero=>exact absurd HA.out (by simp [eX.l0])
  | succ k1 =>
   have H:=HA.out
   clear HA
   simp only [eX.l0] at H
   by_cases c5:bg < af
   case neg =>
    rw [if_neg c5] at H
    have iW:decide (bg < af)=false:=decide_eq_false c5
    clear c5
    have H':=k0 H
    clear H
    have wX:wr.cell? ⟨ai,0,none⟩=some (.int .i64 af):=(av ag.out 0).trans rfl
    have wY:wr.cell? ⟨ai,1,none⟩=some (.slice aq aa.length ak):=(av ag.out 1).trans rfl
    have alH:=aH ag.out 0
    have alI:=aH ag.out 1
    go_wp2
    go_loopg [5] k1 (fun kq v5 w'=>∃ (aE:List (List Int)) (ako:Int),v5=.int .i64 ako∧au (eX.l1 kq aE ako af aa=some r)∧au (kq≤k1)∧au (Kd.S (Kd.slice 2 (Kd.int .i64)) 28 w' w.heap.size (fun _=>True) u3 aE)∧au (w'.heap[ai]?=some (sO af aq aa ak 31))∧au (Below w.heap.size w w'))
    case atStart=>exact ⟨(bD),(0),rs,H',⟨Nat.le_refl _⟩,⟨aS (az.out)⟩,⟨bk⟩,⟨bl⟩⟩
    case round =>
     clear H'
     (try clear c5);(try clear iW);(try clear c6);(try clear akJ);(try clear alP);(try clear c7);(try clear gK);(try clear wJ);(try clear c8);(try clear wX);(try clear wY);(try clear uf);(try clear ug);(try clear alH);(try clear alI);(try clear um);(try clear uo)
     obtain ⟨aE,ako,rfl,HA,bz,az,ag,HB⟩:=hrel
     cases gk with
     | zero=>exact absurd HA.out (by simp [eX.l1])
     | succ k2 =>
      have H:=HA.out
      clear HA
      simp only [eX.l1] at H
      by_cases c15:ako < (wrap64 (2 * (aa.length:Int)))
      case neg =>
       rw [if_neg c15] at H
       have kR:decide (ako < (wrap64 (2 * (aa.length:Int))))=false:=decide_eq_false c15
       clear c15
       obtain rfl:=Option.some.inj H
       have aad:wr.cell? ⟨ai,0,none⟩=some (.int .i64 af):=(av ag.out 0).trans rfl
       have aae:wr.cell? ⟨ai,1,none⟩=some (.slice aq aa.length ak):=(av ag.out 1).trans rfl
       have aaK:=aH ag.out 0
       have aaL:=aH ag.out 1
       go_wp2
       go_ret
       exact ⟨_,by first|rfl|(simp [bq,bt]<;>rfl)|(simp [*,bq,bt]<;>rfl),by (with_reducible repeat (first|apply Kd.gI|apply Kd.gJ|apply Kd.eT));exact az.out,bl⟩
      rw [if_pos c15] at H
      have kR:=decide_eq_true c15
      clear c15
      replace H:=Option.bind_eq_some_iff.mp H
      obtain ⟨⟨t111,t112⟩,pU,H⟩:=H
      replace H:(if 0≤t111 then (if t111 < (aE.length:Int) then (if 0≤t112 then (if t112 < ((ah aE t111).length:Int) then (eX.l1 k2 (aE.set (t111:Int).toNat ((ah aE t111).set (t112:Int).toNat (wrap64 ((rd (ah aE t111) t112)+1)))) (wrap64 (ako+1)) af aa) else (none)) else (none)) else (none)) else (none))=some r:=H
      have oF:=k0 pU
      clear pU
      replace H:=iS H;obtain ⟨c17,H⟩:=H
      have oN:=decide_eq_true c17
      clear c17
      replace H:=iS H;obtain ⟨c18,H⟩:=H
      have tY:=decide_eq_true c18
      clear c18
      replace H:=iS H;obtain ⟨c19,H⟩:=H
      have mA:=decide_eq_true c19
      clear c19
      replace H:=iS H;obtain ⟨c20,H⟩:=H
      have og:=decide_eq_true c20
      clear c20
      obtain ⟨dU,gf⟩:∃ y_:List Int,y_=((ah aE t111).set (t112:Int).toNat (wrap64 ((rd (ah aE t111) t112)+1))):=⟨_,rfl⟩
      replace H:(eX.l1 k2 (aE.set (t111:Int).toNat dU) (wrap64 (ako+1)) af aa)=some r:=by first|(rw [gf];with_reducible exact H)|(have ay:=(Option.bind_some _ _).symm.trans H;rw [gf];with_reducible exact ay)|(have ay:=(Option.bind_some _ _).symm.trans H;with_reducible exact ay)|with_reducible exact H|(rw [gf];exact H)|exact H
      have mV:=k0 gf
      clear gf
      obtain ⟨Lp,C_⟩:∃ y_:List (List Int),y_=(aE.set (t111:Int).toNat dU):=⟨_,rfl⟩
      replace H:(eX.l1 k2 Lp (wrap64 (ako+1)) af aa)=some r:=by first|(rw [C_];with_reducible exact H)|(have ay:=(Option.bind_some _ _).symm.trans H;rw [C_];with_reducible exact ay)|(have ay:=(Option.bind_some _ _).symm.trans H;with_reducible exact ay)|with_reducible exact H|(rw [C_];exact H)|exact H
      have U1:=k0 C_
      clear C_
      have H':=k0 H
      clear H
      have Pz:wr.cell? ⟨ai,0,none⟩=some (.int .i64 af):=(av ag.out 0).trans rfl
      have PA:wr.cell? ⟨ai,1,none⟩=some (.slice aq aa.length ak):=(av ag.out 1).trans rfl
      have PV:=aH ag.out 0
      have PW:=aH ag.out 1
      go_wp2_with (first|((with_reducible refine cZ (f:=201) rfl ?_);refine c_ (some 33) rfl rfl Try.func201 (by kernel_rfl) rfl #[.agg #[.int .i64 af,.slice aq aa.length ak],.int .i64 ako] rfl gm ?_;(with_reducible refine (zE.calls af _ _ aa ako t111 t112 _ ?akn ?aT oF.out).mono ?_);(case akn=>exact aC (Kd.bA bU.out HB.out));(case aT=>exact cG.out);rintro e vW ⟨rfl,hb⟩;refine ⟨_,rfl,?_⟩;replace az:=k0 (Kd.akP (aS az.out) hb);replace ag:=k0 (akj (g:=ai) (o:=sO af aq aa ak 31) bk hb);replace HB:=k0 (aI bl hb);(try clear hb);obtain ⟨LY,amv,Al⟩:=Kd.oK az.out;subst Al;have nN:0≤(t111:Int):=oD;have nO:t111 < (aE.length:Int):=oD;obtain ⟨xZ,ae0,Wm,e113,nk,Qo,P9⟩:=cW (Kd.bY az.out).2.2 t111 nN nO;cases e113;obtain ⟨af9,ZN,Zk,O9⟩:=Kd.mj az.out [] t111 nN (by first|exact nO|exact oD|(have e_:=(Kd.bY az.out).1;omega));obtain ⟨ajN,rfl,ID⟩:=Zk;have CO:=O9 0 _ rfl;rw [Nat.add_zero,show ((Kd.slice 2 (Kd.int .i64))).sz=1 from rfl,Nat.mul_one] at CO;replace CO:=Option.some.inj (CO.symm.trans nk);rw [CO] at ID;have Eb:=k0 (show Kd.R (Kd.int .i64) 2 _ _ _ _ (ah aE t111) from ID);clear CO ID;have Eg:=k0 nk;clear O9 ZN;have MJ:=k0 P9;have afi:=k0 Qo;clear P9 Qo;replace nN:=eq_true nN;replace nO:=eq_true nO;have iF:0≤(t112:Int):=oD;have iG:t112 < ((ah aE t111).length:Int):=oD;obtain ⟨lR,e114,iZ⟩:=Kd.bH (by repeat (first|(with_reducible exact MJ.out)|(with_reducible refine Kd.kK ?_ _)|(with_reducible refine Kd.kY ?_ _)|(with_reducible refine Kd.jY ?_)|exact MJ.out)) t112 iF iG;cases e114;replace iF:=eq_true iF;replace iG:=eq_true iG;have tD:0≤(t112:Int):=oD;have alu:(t112:Int) < (((ah aE t111).length:Int):Int):=oD;obtain ⟨sH,vk,rK,wO,B2,NI,wk⟩:=Kd.akT Eb.out (by omega);(first|cases rK|(injection rK with bf dn dm;(first|subst bf|(injection bf with bf;subst bf));subst dm;clear dn));have amg:=k0 wO;have GK:=k0 wk;clear wO B2 wk;(first|simp only [add_plain] at iZ|skip);obtain ⟨J5,JA⟩:=Kd.jD 0 Eb.out (t112:Int) tD alu;replace tD:=eq_true tD;replace alu:=eq_true alu;have JV:(t111:Int) < (aE.length:Int):=(by have h_:(t111:Int) < ((aE.length:Int):Int):=oD;first|exact h_|(have e_:=(Kd.bY az.out).1;omega)|simpa only [List.length_set,List.length_set] using h_);obtain ⟨RR,WT,Jk,I6,Cf,AA,Cb⟩:=Kd.zT az.out [] (t111:Int) oD (by first|exact JV|(have e_:=(Kd.bY az.out).1;omega));obtain ⟨aeB,rfl,sF⟩:=I6;have vJ:=Cf 0 _ rfl;rw [Nat.add_zero,show ((Kd.slice 2 (Kd.int .i64))).sz=1 from rfl,Nat.mul_one] at vJ;replace vJ:=Option.some.inj (vJ.symm.trans Eg.out);subst vJ;clear Cf Jk;replace sF:=(show Kd.R (Kd.int .i64) 2 _ _ _ _ (ah aE t111) from sF);have pY:=Kd.kP sF (t112:Int) (wrap64 ((rd (ah aE t111) t112)+1)))|((with_reducible refine lf (t:=2) (p:=45) rfl ?_);refine lq (t:=2) (p:=45) (v:=?aeF) (w1:=(vW.setCell ⟨sH,(t112:Int).toNat,none⟩ (.int .i64 (wrap64 ((rd (ah aE t111) t112)+1))))) ?hg ?ho ?hn ?hr ?_;(case ho=>rfl);(case hg=>rfl);(case hn=>rfl);(case hr=>first|(go_simp;done)|(go_simp;rfl));intro uB hw;have hg:vW.grownBy uB (some sH):=(by rw [hw];exact pY.2);have alX:Kd.R (Kd.int .i64) 2 uB w.heap.size RR (.slice (some ⟨sH,0,none⟩) (ah aE t111).length Wm) dU:=(by rw [hw,mV.out];exact pY.1);have dZ:Kd.S (Kd.slice 2 (Kd.int .i64)) 28 uB w.heap.size (fun _=>True) (.slice (some xZ) aE.length amv) Lp:=(by rw [U1.out];exact Cb hg (fun k_ e_=>by injection e_ with e_;subst e_;exact sF.1 _ rfl) (Kd.rz alX));have yN:=Kd.bG alX AA;clear pY Cb;have akf:=k0 (dZ);have aD:=k0 (jl (g:=ai) (o:=sO af aq aa ak 31) bk hg (Kd.iD Eb.out ag.out (by decide)));have aJ:=k0 (Ab hg Eg.out (Ac (AA _ (sF.1 _ rfl)).2));have aX:=k0 ((by rw [hw];exact dM (HB.out) amg.out:Below w.heap.size w uB));have a_:=k0 (yN);have akp:=k0 ((Kd.bu yN).2.1);clear az;clear ag;clear Eg;clear HB;clear Eb;have az:=akf;have ag:=aD;have Eg:=aJ;have HB:=aX;have afw:=a_;have afj:=akp;clear akf aD aJ aX a_ akp;clear hg hw dZ alX yN AA))
      go_roundg k2
      case measure=>have:=akl.out;have:=bz.out;omega
      case rel=>exact ⟨(Lp),(wrap64 (ako+1)),rs,H',⟨by have:=akl.out;have:=bz.out;omega⟩,⟨aS (az.out)⟩,⟨bk⟩,⟨bl⟩⟩
   rw [if_pos c5] at H
   have iW:=decide_eq_true c5
   clear c5
   replace H:=iS H;obtain ⟨c6,H⟩:=H
   have akJ:=eq_true c6
   have alP:=decide_eq_true c6
   clear c6
   replace H:=iS H;obtain ⟨c7,H⟩:=H
   have gK:=eq_true c7
   have wJ:=decide_eq_true c7
   clear c7
   obtain ⟨jg,fy⟩:∃ y_:List Int,y_=(List.replicate (af:Int).toNat 0):=⟨_,rfl⟩
   replace H:(if bD.length < 5864062014805 then (eX.l0 k1 (bD ++ [jg]) (wrap64 (bg+1)) af aa) else (none))=some r:=by first|(rw [fy];with_reducible exact H)|(have ay:=(Option.bind_some _ _).symm.trans H;rw [fy];with_reducible exact ay)|(have ay:=(Option.bind_some _ _).symm.trans H;with_reducible exact ay)|with_reducible exact H|(rw [fy];exact H)|exact H
   have lN:=k0 fy
   clear fy
   replace H:=iS H;obtain ⟨c8,H⟩:=H
   have amz:=k0 c8
   clear c8
   obtain ⟨mO,akO⟩:∃ y_:List (List Int),y_=(bD ++ [jg]):=⟨_,rfl⟩
   replace H:(eX.l0 k1 mO (wrap64 (bg+1)) af aa)=some r:=by first|(rw [akO];with_reducible exact H)|(have ay:=(Option.bind_some _ _).symm.trans H;rw [akO];with_reducible exact ay)|(have ay:=(Option.bind_some _ _).symm.trans H;with_reducible exact ay)|with_reducible exact H|(rw [akO];exact H)|exact H
   have alf:=k0 akO
   clear akO
   have H':=k0 H
   clear H
   have uf:wr.cell? ⟨ai,0,none⟩=some (.int .i64 af):=(av ag.out 0).trans rfl
   have ug:wr.cell? ⟨ai,1,none⟩=some (.slice aq aa.length ak):=(av ag.out 1).trans rfl
   have um:=aH ag.out 0
   have uo:=aH ag.out 1
   go_wp2_with (first|((with_reducible refine cj (N:=19) rfl ?_);refine Kd.xU (Kd.int .i64) _ 2 rfl (N:=19) rfl 28 _ _ rfl af rfl rfl Try.underlying28 (.int .i64 0) 8 lH rfl (by decide) (by omega) 0 (ok:=fun _=>True) (cA:=fun _=>True) rfl (fun _ hk=>hk) trivial oD (Nat.le_trans (Nat.mul_le_mul_right _ (oD:af.toNat≤35184372088832)) (by omega)) (Below.refl _ _) (Nat.le_refl _) ?_;intro fY fF Az hb eB eC;clear eB eC;(first|rw [← lN.out] at Az|(simp only [Int.reduceToNat] at Az;rw [← lN.out] at Az));replace az:=k0 (Kd.g_ (aS az.out) (Kd.bW Az) hb);have cN:=k0 (Kd.dL Az (aU bl));replace ag:=k0 (akj (g:=ai) (o:=sO af aq aa ak 31) bk hb);replace HB:=k0 (aI bl hb);clear hb Az;obtain ⟨r4,sw,Ak⟩:=Kd.eK cN.out;subst Ak)|((with_reducible refine oQ (b:=.append) (xs:=#[.tmp 16,.tmp 20]) rfl ?_);at_builtin;refine Kd.Bm (Kd.slice 2 (Kd.int .i64)) (w0:=w) w.heap.size rfl (.tmp 16) (.tmp 20) 22 28 (.slice none 0 0) 24 rfl Try.underlying22 xo rfl (by decide) (by omega) u3 bD jg [.slice r4 jg.length sw] (fun _=>True) (fun k_=>some k_=(.slice r4 jg.length sw:Value).ownBlock) rfl rfl ?aP (fun k_ jQ=>((Kd.bG (ok':=fun k_=>((fun _=>True)) k_∧some k_ ≠ (u3:Value).ownBlock) (Kd.lA (cN.out) (Kd.akQ az.out) (by decide)) (fun k_ hk=>⟨trivial,hk.2⟩))).1 k_ jQ.symm) ?aF ?aO ?aB ?aS ?aL ?_;(case aP=>exact Kd.rz (Kd.bG (Kd.si rfl (Kd.bG (ok':=fun k_=>((fun _=>True)) k_∧some k_ ≠ (u3:Value).ownBlock) (Kd.lA (cN.out) (Kd.akQ az.out) (by decide)) (fun k_ hk=>⟨trivial,hk.2⟩))) (fun _ h_=>h_)));(case aB=>exact bl);(case aF=>exact (fun _ _=>trivial));(case aO=>exact (by (with_reducible repeat (first|apply Kd.gI|apply Kd.gJ|apply Kd.eT));exact Kd.iK az.out (fun k_ hk=>⟨trivial,fun e_=>hk.2 e_⟩)));(case aS=>exact (aU bl));(case aL=>have:=amz.out;omega);intro v109 jb ho hb hg cy;rw [← alf.out] at ho;have akf:=k0 (jl (g:=ai) (o:=sO af aq aa ak 31) bk hg (Kd.zU az.out ag.out (by decide)));have aD:=k0 (hb);have aJ:=k0 (ho);clear ag;clear HB;clear az;clear cN;have ag:=akf;have HB:=aD;have zH:=aJ;clear akf aD aJ;clear ho hb hg cy))
   go_roundg k1
   case measure=>have:=akl.out;omega
   case rel=>exact ⟨(mO),(wrap64 (bg+1)),rs,H',⟨by have:=akl.out;omega⟩,⟨aS (zH.out)⟩,⟨bk⟩,⟨bl⟩⟩
/-! ### F177: function 177 -/
mutual
def fC.l0 : Nat → Int → Int → Int → Int → List (List Int) → Option (Int)
 | 0,_,_,_,_,_=>none
 | k+1,x1,x5,x6,bR,bJ=>if x6 < (bJ.length:Int) then (fC.l1 k x1 x5 x6 0 bR bJ) else (some x5)
def fC.l1 : Nat → Int → Int → Int → Int → Int → List (List Int) → Option (Int)
 | 0,_,_,_,_,_,_=>none
 | k+1,x1,x5,x6,x7,bR,bJ=>if x7 < 2 then (if 0≤x6 then (if x6 < (bJ.length:Int) then (if 0≤x7 then (if x7 < ((ah bJ x6).length:Int) then (if (rd (ah bJ x6) x7)=x1 then (fC.l1 k x1 (wrap64 (x5+1)) x6 (wrap64 (x7+1)) bR bJ) else (fC.l1 k x1 x5 x6 (wrap64 (x7+1)) bR bJ)) else (none)) else (none)) else (none)) else (none)) else (fC.l0 k x1 x5 (wrap64 (x6+1)) bR bJ)
end
def fC.f (k:Nat) (af:Int) (aa:List (List Int)) (a1:Int):Option (Int):=fC.l0 k a1 0 0 af aa
theorem fC.b8 : ∀ k, (∀ y0 y1 y2 y3 y4, aj (fC.l0 k y0 y1 y2 y3 y4) (fC.l0 (k + 1) y0 y1 y2 y3 y4)) ∧ (∀ y0 y1 y2 y3 y4 y5, aj (fC.l1 k y0 y1 y2 y3 y4 y5) (fC.l1 (k + 1) y0 y1 y2 y3 y4 y5))
 | 0=>⟨fun _ _ _ _ _ r h=>by simp [fC.l0] at h,fun _ _ _ _ _ _ r h=>by simp [fC.l1] at h⟩
 | k+1=>by
  obtain ⟨akk,ih1⟩:=fC.b8 k
  refine ⟨?_, ?_⟩ <;> intros <;> (first | unfold fC.l0 | unfold fC.l1) <;> repeat' first
   | (with_reducible first|exact akk _ _ _ _ _|exact ih1 _ _ _ _ _ _|exact aj.refl _|exact aj.none _|refine aj.ite ?_ ?_|refine aj.bind ?_ (fun _=>?_))
   | exact akk _ _ _ _ _|exact ih1 _ _ _ _ _ _|exact aj.none _|refine aj.ite ?_ ?_|refine aj.bind ?_ (fun _=>?_)
theorem fC.mono:∀ a0 a1 a2 k,aj (fC.f k a0 a1 a2) (fC.f (k+1) a0 a1 a2):=by
 intro a0 a1 a2 k
 obtain ⟨akk,ih1⟩:=fC.b8 k
 unfold fC.f
 repeat' first
  | (with_reducible first|exact akk _ _ _ _ _|exact ih1 _ _ _ _ _ _|exact aj.refl _|exact aj.none _|refine aj.ite ?_ ?_|refine aj.bind ?_ (fun _=>?_))
  | exact akk _ _ _ _ _|exact ih1 _ _ _ _ _ _|exact aj.none _|refine aj.ite ?_ ?_|refine aj.bind ?_ (fun _=>?_)
set_option maxHeartbeats 8000000 in
set_option maxRecDepth 100000 in
theorem fC.calls (k : Nat) (af : Int) (aq : Option Addr) (ak : Nat) (aa : List (List Int)) (a1 : Int) (r : Int) (w : World) (akv : Kd.C (Kd.slice 2 (Kd.int .i64)) w aq aa.length aa) (akw : aa.length ≤ ak) (h : fC.f k af aa a1 = some r) :
  Calls Try.prog 177 #[.agg #[.int .i64 af,.slice aq aa.length ak],.int .i64 a1] w fun e w'=>e=.returned (.int .i64 r)∧Below w.heap.size w w':=by
 have j8:=Try.underlying31
 have bU:=k0 akv
 have cG:=k0 akw
 clear akv akw
 have HB:=k0 (Below.refl w.heap.size w)
 have H:(fC.l0 k a1 0 0 af aa)=some r:=h
 clear h
 have H':=k0 H
 clear H
 go_enter Try.func177,Try.ntmps177
 go_wp2_with (first|((with_reducible refine cj (N:=2) rfl ?_);refine dJ ?hg (N:=2) ?hd (cs:=#[.int .i64 af,.slice aq aa.length ak]) (t:=31) ?hr ?_;(case hd=>rfl);(case hg=>rfl);(case hr=>first|(go_simp;done)|(go_simp;rfl));intro ai hg w3 aK hb;have ag:=k0 (aK);have aks:=k0 ((by rw [hg];exact (aU bl):w.heap.size≤ai));have ej:=aks;replace HB:=k0 (aI bl hb);clear hb aK hg))
 go_loopg [5,6] k (fun kq v5 v6 w'=>∃ (aM:Int) (fU:Int),v5=.int .i64 aM∧v6=.int .i64 fU∧au (fC.l0 kq a1 aM fU af aa=some r)∧au (kq≤k)∧au (w'.heap[ai]?=some (sO af aq aa ak 31))∧au (Below w.heap.size w w'))
 case atStart=>exact ⟨(0),(0),rs,rs,H',⟨Nat.le_refl _⟩,⟨bk⟩,⟨bl⟩⟩
 case round =>
  clear H'
  obtain ⟨aM,fU,rfl,rfl,HA,akl,ag,HB⟩:=hrel
  cases gk with
  | zero=>exact absurd HA.out (by simp [fC.l0])
  | succ k1 =>
   have H:=HA.out
   clear HA
   simp only [fC.l0] at H
   by_cases c4:fU < (aa.length:Int)
   case neg =>
    rw [if_neg c4] at H
    have eA:decide (fU < (aa.length:Int))=false:=decide_eq_false c4
    clear c4
    obtain rfl:=Option.some.inj H
    have wX:wr.cell? ⟨ai,0,none⟩=some (.int .i64 af):=(av ag.out 0).trans rfl
    have wY:wr.cell? ⟨ai,1,none⟩=some (.slice aq aa.length ak):=(av ag.out 1).trans rfl
    have alH:=aH ag.out 0
    have alI:=aH ag.out 1
    go_wp2
    go_ret
    exact ⟨by first|rfl|(simp [bq,bt]<;>rfl)|(simp [*,bq,bt]<;>rfl),bl⟩
   rw [if_pos c4] at H
   have eA:=decide_eq_true c4
   clear c4
   have H':=k0 H
   clear H
   have sJ:wr.cell? ⟨ai,0,none⟩=some (.int .i64 af):=(av ag.out 0).trans rfl
   have sK:wr.cell? ⟨ai,1,none⟩=some (.slice aq aa.length ak):=(av ag.out 1).trans rfl
   have sM:=aH ag.out 0
   have sN:=aH ag.out 1
   go_wp2
   go_loopg [5,7] k1 (fun kq v5 v7 w'=>∃ (ako:Int) (dG:Int),v5=.int .i64 ako∧v7=.int .i64 dG∧au (fC.l1 kq a1 ako fU dG af aa=some r)∧au (kq≤k1)∧au (w'.heap[ai]?=some (sO af aq aa ak 31))∧au (Below w.heap.size w w'))
   case atStart=>exact ⟨(aM),(0),rs,rs,H',⟨Nat.le_refl _⟩,⟨bk⟩,⟨bl⟩⟩
   case round =>
    clear H'
    (try clear c4);(try clear eA);(try clear sJ);(try clear sK);(try clear sM);(try clear sN)
    obtain ⟨ako,dG,rfl,rfl,HA,bz,ag,HB⟩:=hrel
    cases gk with
    | zero=>exact absurd HA.out (by simp [fC.l1])
    | succ k2 =>
     have H:=HA.out
     clear HA
     simp only [fC.l1] at H
     by_cases c6:dG < 2
     case neg =>
      rw [if_neg c6] at H
      have akJ:decide (dG < 2)=false:=decide_eq_false c6
      clear c6
      have H':=k0 H
      clear H
      go_wp2
      go_roundg k2
      case measure=>have:=akl.out;have:=bz.out;omega
      case rel=>exact ⟨(ako),(wrap64 (fU+1)),rs,rs,H',⟨by have:=akl.out;have:=bz.out;omega⟩,⟨bk⟩,⟨bl⟩⟩
     rw [if_pos c6] at H
     have akJ:=decide_eq_true c6
     clear c6
     replace H:=iS H;obtain ⟨c7,H⟩:=H
     have gK:=decide_eq_true c7
     clear c7
     replace H:=iS H;obtain ⟨c8,H⟩:=H
     have iX:=decide_eq_true c8
     clear c8
     replace H:=iS H;obtain ⟨c9,H⟩:=H
     have k8:=decide_eq_true c9
     clear c9
     replace H:=iS H;obtain ⟨c10,H⟩:=H
     have lB:=decide_eq_true c10
     clear c10
     by_cases c11:(rd (ah aa fU) dG)=a1
     case neg =>
      rw [if_neg c11] at H
      have mz:((rd (ah aa fU) dG) == a1)=false:=beq_eq_false_iff_ne.mpr c11
      have sq:((rd (ah aa fU) dG) != a1)=true:=bne_iff_ne.mpr c11
      have H':=k0 H
      clear H
      have aaa:wr.cell? ⟨ai,0,none⟩=some (.int .i64 af):=(av ag.out 0).trans rfl
      have aab:wr.cell? ⟨ai,1,none⟩=some (.slice aq aa.length ak):=(av ag.out 1).trans rfl
      have aaH:=aH ag.out 0
      have aaI:=aH ag.out 1
      have dr:0≤(fU:Int):=oD
      have dw:fU < (aa.length:Int):=oD
      obtain ⟨oa,uE,uX,e102,akN,jr,jo⟩:=cW bU.out fU dr dw
      cases e102
      replace akN:=hbc HB akN
      have jh:=k0 jo
      have o5:=k0 jr
      clear jo jr
      replace dr:=eq_true dr
      replace dw:=eq_true dw
      have dQ:0≤(dG:Int):=oD
      have dR:dG < ((ah aa fU).length:Int):=oD
      obtain ⟨jf,e103,er⟩:=Kd.bH jh.out dG dQ dR
      cases e103
      replace er:=hbc HB er
      replace dQ:=eq_true dQ
      replace dR:=eq_true dR
      go_wp2
      go_roundg k2
      case measure=>have:=akl.out;have:=bz.out;omega
      case rel=>exact ⟨(ako),(wrap64 (dG+1)),rs,rs,H',⟨by have:=akl.out;have:=bz.out;omega⟩,⟨bk⟩,⟨bl⟩⟩
     rw [if_pos c11] at H
     have mz:((rd (ah aa fU) dG) == a1)=true:=beq_iff_eq.mpr c11
     have sq:((rd (ah aa fU) dG) != a1)=false:=bne_eq_false_iff_eq.mpr c11
     clear c11
     have H':=k0 H
     clear H
     have ag2:wr.cell? ⟨ai,0,none⟩=some (.int .i64 af):=(av ag.out 0).trans rfl
     have ag3:wr.cell? ⟨ai,1,none⟩=some (.slice aq aa.length ak):=(av ag.out 1).trans rfl
     have ahs:=aH ag.out 0
     have aht:=aH ag.out 1
     have dr:0≤(fU:Int):=oD
     have dw:fU < (aa.length:Int):=oD
     obtain ⟨oa,uE,uX,e102,akN,jr,jo⟩:=cW bU.out fU dr dw
     cases e102
     replace akN:=hbc HB akN
     have jh:=k0 jo
     have o5:=k0 jr
     clear jo jr
     replace dr:=eq_true dr
     replace dw:=eq_true dw
     have dQ:0≤(dG:Int):=oD
     have dR:dG < ((ah aa fU).length:Int):=oD
     obtain ⟨jf,e103,er⟩:=Kd.bH jh.out dG dQ dR
     cases e103
     replace er:=hbc HB er
     replace dQ:=eq_true dQ
     replace dR:=eq_true dR
     go_wp2
     go_roundg k2
     case measure=>have:=akl.out;have:=bz.out;omega
     case rel=>exact ⟨(wrap64 (ako+1)),(wrap64 (dG+1)),rs,rs,H',⟨by have:=akl.out;have:=bz.out;omega⟩,⟨bk⟩,⟨bl⟩⟩
end Go.Proofs.Ytoebojnhchocaaa.C
/- Set with little white space, by a program. -/
