/- The functions that one law reaches, each as a Lean function, and that Go's call comes to what it says. Condition of each: that the Lean function answers (is not none). -/
import Derived.Test.YtoebojnhchocaaaBx0
import Derived.Test.YtoebojnhchocaaaBx2
namespace Go.Proofs.Ytoebojnhchocaaa.B
open Go.RowKit Go.Proofs.bC.eg Go.Proofs.bC.iZ Go.Proofs.bC.jr
attribute [local go_sem] max2_int min2_int max_two min_two max_three min_three max_four min_four   -- for this text's walks alone
set_option linter.unusedVariables false
set_option linter.unusedSimpArgs false
/-! ### F100: function 100 -/
mutual
def eu.j0 : Nat → Bool → Int → List (List Int) → Option (Bool)
 | 0,_,_,_=>none
 | k+1,jm,bU,bN=>if jm=true then (some false) else (eu.l0 k 0 bU bN)
def eu.l0 : Nat → Int → Int → List (List Int) → Option (Bool)
 | 0,_,_,_=>none
 | k+1,x3,bU,bN=>if x3 < (bN.length:Int) then (if 0≤x3 then (if ((ag bN x3).length:Int)=2 then (if 0 < ((ag bN x3).length:Int) then ((gP.f (rd (ag bN x3) 0) 0 (wrap64 (bU - 1))).bind fun t106=>(if t106=true then (if 1 < ((ag bN x3).length:Int) then ((gP.f (rd (ag bN x3) 1) 0 (wrap64 (bU - 1))).bind fun t109=>(if t109=true then (eu.l0 k (wrap64 (x3+1)) bU bN) else (some false))) else (none)) else (some false))) else (none)) else (some false)) else (none)) else (some true)
end
def eu.f (k:Nat) (af:Int) (aa:List (List Int)):Option (Bool):=(gP.f af 1 8).bind fun t102=>(if t102=true then (eu.j0 k (decide ((aa.length:Int) > 10)) af aa) else (eu.j0 k true af aa))
theorem eu.cj : ∀ k, (∀ y0 y1 y2, aj (eu.j0 k y0 y1 y2) (eu.j0 (k + 1) y0 y1 y2)) ∧ (∀ y0 y1 y2, aj (eu.l0 k y0 y1 y2) (eu.l0 (k + 1) y0 y1 y2))
 | 0=>⟨fun _ _ _ r h=>by simp [eu.j0] at h,fun _ _ _ r h=>by simp [eu.l0] at h⟩
 | k+1=>by
  obtain ⟨ali,ih1⟩:=eu.cj k
  refine ⟨?_, ?_⟩ <;> intros <;> (first | unfold eu.j0 | unfold eu.l0) <;> repeat' first
   | (with_reducible first|exact ali _ _ _|exact ih1 _ _ _|exact aj.refl _|exact aj.none _|refine aj.ite ?_ ?_|refine aj.bind ?_ (fun _=>?_))
   | exact ali _ _ _|exact ih1 _ _ _|exact aj.none _|refine aj.ite ?_ ?_|refine aj.bind ?_ (fun _=>?_)
theorem eu.mono:∀ a0 a1 k,aj (eu.f k a0 a1) (eu.f (k+1) a0 a1):=by
 intro a0 a1 k
 obtain ⟨ali,ih1⟩:=eu.cj k
 unfold eu.f
 repeat' first
  | (with_reducible first|exact ali _ _ _|exact ih1 _ _ _|exact aj.refl _|exact aj.none _|refine aj.ite ?_ ?_|refine aj.bind ?_ (fun _=>?_))
  | exact ali _ _ _|exact ih1 _ _ _|exact aj.none _|refine aj.ite ?_ ?_|refine aj.bind ?_ (fun _=>?_)
set_option maxHeartbeats 8000000 in
set_option maxRecDepth 100000 in
theorem eu.calls (k : Nat) (af : Int) (au : Option Addr) (aq : Nat) (aa : List (List Int)) (r : Bool) (w : World) (cl : Kd.C (Kd.slice 2 (Kd.int .i64)) w au aa.length aa) (cn : aa.length ≤ aq) (h : eu.f k af aa = some r) :
  Calls Try.prog 100 #[.agg #[.int .i64 af,.slice au aa.length aq]] w fun e w'=>e=.returned (.bool r)∧Below w.heap.size w w':=by
 have kF:=Try.underlying31
 have alx:=k0 cl
 have di:=k0 cn
 clear cl cn
 have HB:=k0 (Below.refl w.heap.size w)
 have H:((gP.f af 1 8).bind fun t102=>(if t102=true then (eu.j0 k (decide ((aa.length:Int) > 10)) af aa) else (eu.j0 k true af aa)))=some r:=h
 clear h
 have amO:=k0 H
 clear H
 go_enter Try.func100,Try.ntmps100
 go_upto_region 1 with (first|((with_reducible refine cy (N:=1) rfl ?_);(try (refine ang (by rfl) ?_;dsimp only));refine ec ?hg (N:=1) ?hd (cs:=#[.int .i64 af,.slice au aa.length aq]) (t:=31) ?hr ?_;(case hd=>rfl);(case hg=>rfl);(case hr=>first|(go_simp;done)|(go_simp;rfl));intro ai hg w3 aJ hb;have ah:=k0 (aJ);have cr:=k0 ((by rw [hg];exact (aU bl):w.heap.size≤ai));have eL:=cr;replace HB:=k0 (aG bl hb);clear hb aJ hg))
 repeat (go_quiet (first|((with_reducible refine cy (N:=1) rfl ?_);(try (refine ang (by rfl) ?_;dsimp only));refine ec ?hg (N:=1) ?hd (cs:=#[.int .i64 af,.slice au aa.length aq]) (t:=31) ?hr ?_;(case hd=>rfl);(case hg=>rfl);(case hr=>first|(go_simp;done)|(go_simp;rfl));intro ai hg w3 aJ hb;have ah:=k0 (aJ);have cr:=k0 ((by rw [hg];exact (aU bl):w.heap.size≤ai));have eL:=cr;replace HB:=k0 (aG bl hb);clear hb aJ hg));go_upto_region 1 with (first|((with_reducible refine cy (N:=1) rfl ?_);(try (refine ang (by rfl) ?_;dsimp only));refine ec ?hg (N:=1) ?hd (cs:=#[.int .i64 af,.slice au aa.length aq]) (t:=31) ?hr ?_;(case hd=>rfl);(case hg=>rfl);(case hr=>first|(go_simp;done)|(go_simp;rfl));intro ai hg w3 aJ hb;have ah:=k0 (aJ);have cr:=k0 ((by rw [hg];exact (aU bl):w.heap.size≤ai));have eL:=cr;replace HB:=k0 (aG bl hb);clear hb aJ hg)))
 (try simp only [Act.put,zI,zZ,zS])
 go_cut [13] (fun Ej wc=>∃ (kq:Nat) (aT:Bool),Ej=.bool aT∧ak (eu.j0 kq aT af aa=some r)∧ak (kq≤k)∧ak (wc.heap[ai]?=some (sO af au aa aq 31))∧ak (Below w.heap.size w wc))
 case first =>
  have H:=amO.out
  clear amO
  replace H:=Option.bind_eq_some_iff.mp H
  obtain ⟨t102,jH,H⟩:=H
  replace H:(if t102=true then (eu.j0 k (decide ((aa.length:Int) > 10)) af aa) else (eu.j0 k true af aa))=some r:=H
  have A4:=k0 jH
  clear jH
  by_cases c5:t102=true
  case neg =>
   replace c5:=Bool.eq_false_iff.mpr c5
   subst c5
   have H1:(eu.j0 k true af aa)=some r:=by rw [if_neg (show ¬ (false=true) by decide)] at H;exact H
   clear H
   have H:=H1
   clear H1
   have H':=k0 H
   clear H
   have sq:w3.cell? ⟨ai,0,none⟩=some (.int .i64 af):=(av ah.out 0).trans rfl
   have sr:w3.cell? ⟨ai,1,none⟩=some (.slice au aa.length aq):=(av ah.out 1).trans rfl
   have sx:=ale ah.out 0
   have sy:=ale ah.out 1
   go_wp2_with (first|(go_at_call 172;(with_reducible refine (gP.calls af 1 8 false _ A4.out).mono ?_);rintro e w' ⟨rfl,⟨nd,rfl⟩⟩;(try first|exact ⟨rfl,_,World.drewN_drewN _ _ _⟩|exact ⟨rfl,_,Eq.trans (World.drewN_drewN _ _ _) (congrArg (World.drewN _) (Nat.add_assoc _ _ _))⟩)))
   repeat (go_quiet (first|(go_at_call 172;(with_reducible refine (gP.calls af 1 8 false _ A4.out).mono ?_);rintro e w' ⟨rfl,⟨nd,rfl⟩⟩;(try first|exact ⟨rfl,_,World.drewN_drewN _ _ _⟩|exact ⟨rfl,_,Eq.trans (World.drewN_drewN _ _ _) (congrArg (World.drewN _) (Nat.add_assoc _ _ _))⟩)));try go_wp2_with (first|(go_at_call 172;(with_reducible refine (gP.calls af 1 8 false _ A4.out).mono ?_);rintro e w' ⟨rfl,⟨nd,rfl⟩⟩;(try first|exact ⟨rfl,_,World.drewN_drewN _ _ _⟩|exact ⟨rfl,_,Eq.trans (World.drewN_drewN _ _ _) (congrArg (World.drewN _) (Nat.add_assoc _ _ _))⟩))))
   go_meet
   case rel=>exact ⟨_,(true),rs,H',⟨by first|omega|exact Nat.le_refl _⟩,⟨bk⟩,⟨bl⟩⟩
  subst c5
  have H1:(eu.j0 k (decide ((aa.length:Int) > 10)) af aa)=some r:=by rw [if_pos rfl] at H;exact H
  clear H
  have H:=H1
  clear H1
  have H':=k0 H
  clear H
  have amE:w3.cell? ⟨ai,0,none⟩=some (.int .i64 af):=(av ah.out 0).trans rfl
  have wu:w3.cell? ⟨ai,1,none⟩=some (.slice au aa.length aq):=(av ah.out 1).trans rfl
  have wE:=ale ah.out 0
  have wF:=ale ah.out 1
  go_wp2_with (first|(go_at_call 172;(with_reducible refine (gP.calls af 1 8 true _ A4.out).mono ?_);rintro e w' ⟨rfl,⟨nd,rfl⟩⟩;(try first|exact ⟨rfl,_,World.drewN_drewN _ _ _⟩|exact ⟨rfl,_,Eq.trans (World.drewN_drewN _ _ _) (congrArg (World.drewN _) (Nat.add_assoc _ _ _))⟩)))
  repeat (go_quiet (first|(go_at_call 172;(with_reducible refine (gP.calls af 1 8 true _ A4.out).mono ?_);rintro e w' ⟨rfl,⟨nd,rfl⟩⟩;(try first|exact ⟨rfl,_,World.drewN_drewN _ _ _⟩|exact ⟨rfl,_,Eq.trans (World.drewN_drewN _ _ _) (congrArg (World.drewN _) (Nat.add_assoc _ _ _))⟩)));try go_wp2_with (first|(go_at_call 172;(with_reducible refine (gP.calls af 1 8 true _ A4.out).mono ?_);rintro e w' ⟨rfl,⟨nd,rfl⟩⟩;(try first|exact ⟨rfl,_,World.drewN_drewN _ _ _⟩|exact ⟨rfl,_,Eq.trans (World.drewN_drewN _ _ _) (congrArg (World.drewN _) (Nat.add_assoc _ _ _))⟩))))
  go_meet
  case rel=>exact ⟨_,(decide ((aa.length:Int) > 10)),rs,H',⟨by first|omega|exact Nat.le_refl _⟩,⟨bk⟩,⟨bl⟩⟩
 case rest =>
  clear amO
  (try clear c5);(try clear amE);(try clear wu);(try clear sq);(try clear sr);(try clear wE);(try clear wF);(try clear sx);(try clear sy)
  obtain ⟨kq,aT,rfl,HA,Nw,ah,HB⟩:=hcut
  cases kq with
  | zero=>exact absurd HA.out (by simp [eu.j0])
  | succ K3 =>
   have H:=HA.out
   clear HA
   simp only [eu.j0] at H
   by_cases c8:aT=true
   case neg =>
    replace c8:=Bool.eq_false_iff.mpr c8
    subst c8
    have H1:(eu.l0 K3 0 af aa)=some r:=by rw [if_neg (show ¬ (false=true) by decide)] at H;exact H
    clear H
    have H:=H1
    clear H1
    have H':=k0 H
    clear H
    go_wp2
    repeat (go_quiet (fail);try go_wp2)
    go_loopg [3] K3 (fun kq v3 w'=>∃ (ald:Int),v3=.int .i64 ald∧ak (eu.l0 kq ald af aa=some r)∧ak (kq≤K3)∧ak (w'.heap[ai]?=some (sO af au aa aq 31))∧ak (Below w.heap.size w w'))
    case atStart=>exact ⟨(0),rs,H',⟨Nat.le_refl _⟩,⟨bk⟩,⟨bl⟩⟩
    case round =>
     clear H'
     (try clear c5);(try clear c8);(try clear amE);(try clear wu);(try clear sq);(try clear sr);(try clear wE);(try clear wF);(try clear sx);(try clear sy)
     obtain ⟨ald,rfl,HA,bp,ah,HB⟩:=hrel
     cases gk with
     | zero=>exact absurd HA.out (by simp [eu.l0])
     | succ k2 =>
      have H:=HA.out
      clear HA
      simp only [eu.l0] at H
      by_cases c9:ald < (aa.length:Int)
      case neg =>
       rw [if_neg c9] at H
       have mg:decide (ald < (aa.length:Int))=false:=decide_eq_false c9
       clear c9
       obtain rfl:=Option.some.inj H
       have QF:wr.cell? ⟨ai,0,none⟩=some (.int .i64 af):=(av ah.out 0).trans rfl
       have QG:wr.cell? ⟨ai,1,none⟩=some (.slice au aa.length aq):=(av ah.out 1).trans rfl
       have Q0:=ale ah.out 0
       have Q1:=ale ah.out 1
       go_wp2
       repeat (go_quiet (fail);try go_wp2)
       go_ret
       exact ⟨by first|rfl|(simp [bA,bB]<;>rfl)|(simp [*,bA,bB]<;>rfl),bl⟩
      rw [if_pos c9] at H
      have mg:=decide_eq_true c9
      clear c9
      replace H:=iS H;obtain ⟨c10,H⟩:=H
      have lA:=decide_eq_true c10
      clear c10
      by_cases c11:((ag aa ald).length:Int)=2
      case neg =>
       rw [if_neg c11] at H
       have l_:(((ag aa ald).length:Int) == 2)=false:=beq_eq_false_iff_ne.mpr c11
       have amo:(((ag aa ald).length:Int) != 2)=true:=bne_iff_ne.mpr c11
       obtain rfl:=Option.some.inj H
       have FM:wr.cell? ⟨ai,0,none⟩=some (.int .i64 af):=(av ah.out 0).trans rfl
       have ahO:wr.cell? ⟨ai,1,none⟩=some (.slice au aa.length aq):=(av ah.out 1).trans rfl
       have FQ:=ale ah.out 0
       have aik:=ale ah.out 1
       have dQ:0≤(ald:Int):=oD
       have dR:ald < (aa.length:Int):=oD
       obtain ⟨ji,vu,vO,e103,en,jA,jy⟩:=cZ alx.out ald dQ dR
       cases e103
       replace en:=hbc HB en
       have qp:=k0 jy
       have vD:=k0 jA
       clear jy jA
       replace dQ:=eq_true dQ
       replace dR:=eq_true dR
       go_wp2
       repeat (go_quiet (fail);try go_wp2)
       go_ret
       exact ⟨by first|rfl|(simp [bA,bB]<;>rfl)|(simp [*,bA,bB]<;>rfl),bl⟩
      rw [if_pos c11] at H
      have l_:(((ag aa ald).length:Int) == 2)=true:=beq_iff_eq.mpr c11
      have amo:(((ag aa ald).length:Int) != 2)=false:=bne_eq_false_iff_eq.mpr c11
      clear c11
      replace H:=iS H;obtain ⟨c12,H⟩:=H
      have r7:=decide_eq_true c12
      have AM:decide (0 < (ag aa ald).length)=true:=decide_eq_true (by omega)
      clear c12
      replace H:=Option.bind_eq_some_iff.mp H
      obtain ⟨t106,BJ,H⟩:=H
      replace H:(if t106=true then (if 1 < ((ag aa ald).length:Int) then ((gP.f (rd (ag aa ald) 1) 0 (wrap64 (af - 1))).bind fun t109=>(if t109=true then (eu.l0 k2 (wrap64 (ald+1)) af aa) else (some false))) else (none)) else (some false))=some r:=H
      have o9:=k0 BJ
      clear BJ
      by_cases c14:t106=true
      case neg =>
       replace c14:=Bool.eq_false_iff.mpr c14
       subst c14
       have H1:(some false)=some r:=by rw [if_neg (show ¬ (false=true) by decide)] at H;exact H
       clear H
       have H:=H1
       clear H1
       obtain rfl:=Option.some.inj H
       have Kk:wr.cell? ⟨ai,0,none⟩=some (.int .i64 af):=(av ah.out 0).trans rfl
       have Kl:wr.cell? ⟨ai,1,none⟩=some (.slice au aa.length aq):=(av ah.out 1).trans rfl
       have Ky:=ale ah.out 0
       have Kz:=ale ah.out 1
       have dQ:0≤(ald:Int):=oD
       have dR:ald < (aa.length:Int):=oD
       obtain ⟨ji,vu,vO,e103,en,jA,jy⟩:=cZ alx.out ald dQ dR
       cases e103
       replace en:=hbc HB en
       have qp:=k0 jy
       have vD:=k0 jA
       clear jy jA
       replace dQ:=eq_true dQ
       replace dR:=eq_true dR
       have cV:0≤(ald:Int):=oD
       have cW:ald < (aa.length:Int):=oD
       obtain ⟨ku,vv,vP,e104,cN,lp,lg⟩:=cZ alx.out ald cV cW
       obtain rfl:ji=ku:=(by injection e104)
       replace cN:=hbc HB cN
       have rX:=k0 lg
       have vE:=k0 lp
       clear lg lp
       replace cV:=eq_true cV
       replace cW:=eq_true cW
       have aW:=Option.some.inj (en.symm.trans cN)
       injection aW with aW aly c_
       subst aW
       subst c_
       clear aly
       have dg:0≤(0:Int):=(by omega)
       have cX:0 < ((ag aa ald).length:Int):=oD
       obtain ⟨kz,e105,dX⟩:=Kd.bS rX.out 0 dg cX
       cases e105
       have D8:(0 < (ag aa ald).length)=True:=eq_true (by omega)
       (try rw [show ((0:Int)).toNat=0 from rfl] at dX)
       (try rw [Addr.add_zero'] at dX)
       replace dX:=hbc HB dX
       replace dg:=eq_true dg
       replace cX:=eq_true cX
       go_wp2_with (first|(go_at_call 172;(with_reducible refine (gP.calls (rd (ag aa ald) 0) 0 (wrap64 (af - 1)) false _ o9.out).mono ?_);rintro e w' ⟨rfl,⟨nd,rfl⟩⟩;(try first|exact ⟨rfl,_,World.drewN_drewN _ _ _⟩|exact ⟨rfl,_,Eq.trans (World.drewN_drewN _ _ _) (congrArg (World.drewN _) (Nat.add_assoc _ _ _))⟩)))
       repeat (go_quiet (first|(go_at_call 172;(with_reducible refine (gP.calls (rd (ag aa ald) 0) 0 (wrap64 (af - 1)) false _ o9.out).mono ?_);rintro e w' ⟨rfl,⟨nd,rfl⟩⟩;(try first|exact ⟨rfl,_,World.drewN_drewN _ _ _⟩|exact ⟨rfl,_,Eq.trans (World.drewN_drewN _ _ _) (congrArg (World.drewN _) (Nat.add_assoc _ _ _))⟩)));try go_wp2_with (first|(go_at_call 172;(with_reducible refine (gP.calls (rd (ag aa ald) 0) 0 (wrap64 (af - 1)) false _ o9.out).mono ?_);rintro e w' ⟨rfl,⟨nd,rfl⟩⟩;(try first|exact ⟨rfl,_,World.drewN_drewN _ _ _⟩|exact ⟨rfl,_,Eq.trans (World.drewN_drewN _ _ _) (congrArg (World.drewN _) (Nat.add_assoc _ _ _))⟩))))
       go_ret
       exact ⟨by first|rfl|(simp [bA,bB]<;>rfl)|(simp [*,bA,bB]<;>rfl),bl⟩
      subst c14
      have H1:(if 1 < ((ag aa ald).length:Int) then ((gP.f (rd (ag aa ald) 1) 0 (wrap64 (af - 1))).bind fun t109=>(if t109=true then (eu.l0 k2 (wrap64 (ald+1)) af aa) else (some false))) else (none))=some r:=by rw [if_pos rfl] at H;exact H
      clear H
      have H:=H1
      clear H1
      replace H:=iS H;obtain ⟨c15,H⟩:=H
      have kV:=decide_eq_true c15
      have r8:decide (1 < (ag aa ald).length)=true:=decide_eq_true (by omega)
      clear c15
      replace H:=Option.bind_eq_some_iff.mp H
      obtain ⟨t109,amm,H⟩:=H
      replace H:(if t109=true then (eu.l0 k2 (wrap64 (ald+1)) af aa) else (some false))=some r:=H
      have qg:=k0 amm
      clear amm
      by_cases c17:t109=true
      case neg =>
       replace c17:=Bool.eq_false_iff.mpr c17
       subst c17
       have H1:(some false)=some r:=by rw [if_neg (show ¬ (false=true) by decide)] at H;exact H
       clear H
       have H:=H1
       clear H1
       obtain rfl:=Option.some.inj H
       have sk:wr.cell? ⟨ai,0,none⟩=some (.int .i64 af):=(av ah.out 0).trans rfl
       have xP:wr.cell? ⟨ai,1,none⟩=some (.slice au aa.length aq):=(av ah.out 1).trans rfl
       have sw:=ale ah.out 0
       have xV:=ale ah.out 1
       have dQ:0≤(ald:Int):=oD
       have dR:ald < (aa.length:Int):=oD
       obtain ⟨ji,vu,vO,e103,en,jA,jy⟩:=cZ alx.out ald dQ dR
       cases e103
       replace en:=hbc HB en
       have qp:=k0 jy
       have vD:=k0 jA
       clear jy jA
       replace dQ:=eq_true dQ
       replace dR:=eq_true dR
       have cV:0≤(ald:Int):=oD
       have cW:ald < (aa.length:Int):=oD
       obtain ⟨ku,vv,vP,e104,cN,lp,lg⟩:=cZ alx.out ald cV cW
       obtain rfl:ji=ku:=(by injection e104)
       replace cN:=hbc HB cN
       have rX:=k0 lg
       have vE:=k0 lp
       clear lg lp
       replace cV:=eq_true cV
       replace cW:=eq_true cW
       have aW:=Option.some.inj (en.symm.trans cN)
       injection aW with aW aly c_
       subst aW
       subst c_
       clear aly
       have dg:0≤(0:Int):=(by omega)
       have cX:0 < ((ag aa ald).length:Int):=oD
       obtain ⟨kz,e105,dX⟩:=Kd.bS rX.out 0 dg cX
       cases e105
       have D8:(0 < (ag aa ald).length)=True:=eq_true (by omega)
       (try rw [show ((0:Int)).toNat=0 from rfl] at dX)
       (try rw [Addr.add_zero'] at dX)
       replace dX:=hbc HB dX
       replace dg:=eq_true dg
       replace cX:=eq_true cX
       have gv:0≤(ald:Int):=oD
       have gx:ald < (aa.length:Int):=oD
       obtain ⟨pV,Ex,Fi,e107,fX,qI,qF⟩:=cZ alx.out ald gv gx
       obtain rfl:ji=pV:=(by injection e107)
       replace fX:=hbc HB fX
       have vG:=k0 qF
       have EJ:=k0 qI
       clear qF qI
       replace gv:=eq_true gv
       replace gx:=eq_true gx
       have aW:=Option.some.inj (en.symm.trans fX)
       injection aW with aW aly c_
       subst aW
       subst c_
       clear aly
       have ef:0≤(1:Int):=(by omega)
       have dS:1 < ((ag aa ald).length:Int):=oD
       obtain ⟨al1,e108,fu⟩:=Kd.bS vG.out 1 ef dS
       cases e108
       (try simp only [show (1:Int).toNat=1 from rfl,Nat.reduceMul,Nat.reduceEqDiff,Go.Addr.add,↓reduceIte] at fu)
       have ad9:(1 < (ag aa ald).length)=True:=eq_true (by omega)
       (try rw [show ((1:Int)).toNat=1 from rfl] at fu)
       replace fu:=hbc HB fu
       replace ef:=eq_true ef
       replace dS:=eq_true dS
       go_wp2_with (first|(go_at_call 172;(with_reducible refine (gP.calls (rd (ag aa ald) 0) 0 (wrap64 (af - 1)) true _ o9.out).mono ?_);rintro e w' ⟨rfl,⟨nd,rfl⟩⟩;(try first|exact ⟨rfl,_,World.drewN_drewN _ _ _⟩|exact ⟨rfl,_,Eq.trans (World.drewN_drewN _ _ _) (congrArg (World.drewN _) (Nat.add_assoc _ _ _))⟩))|(go_at_call 172;(with_reducible refine (gP.calls (rd (ag aa ald) 1) 0 (wrap64 (af - 1)) false _ qg.out).mono ?_);rintro e w' ⟨rfl,⟨nd,rfl⟩⟩;(try first|exact ⟨rfl,_,World.drewN_drewN _ _ _⟩|exact ⟨rfl,_,Eq.trans (World.drewN_drewN _ _ _) (congrArg (World.drewN _) (Nat.add_assoc _ _ _))⟩)))
       repeat (go_quiet (first|(go_at_call 172;(with_reducible refine (gP.calls (rd (ag aa ald) 0) 0 (wrap64 (af - 1)) true _ o9.out).mono ?_);rintro e w' ⟨rfl,⟨nd,rfl⟩⟩;(try first|exact ⟨rfl,_,World.drewN_drewN _ _ _⟩|exact ⟨rfl,_,Eq.trans (World.drewN_drewN _ _ _) (congrArg (World.drewN _) (Nat.add_assoc _ _ _))⟩))|(go_at_call 172;(with_reducible refine (gP.calls (rd (ag aa ald) 1) 0 (wrap64 (af - 1)) false _ qg.out).mono ?_);rintro e w' ⟨rfl,⟨nd,rfl⟩⟩;(try first|exact ⟨rfl,_,World.drewN_drewN _ _ _⟩|exact ⟨rfl,_,Eq.trans (World.drewN_drewN _ _ _) (congrArg (World.drewN _) (Nat.add_assoc _ _ _))⟩)));try go_wp2_with (first|(go_at_call 172;(with_reducible refine (gP.calls (rd (ag aa ald) 0) 0 (wrap64 (af - 1)) true _ o9.out).mono ?_);rintro e w' ⟨rfl,⟨nd,rfl⟩⟩;(try first|exact ⟨rfl,_,World.drewN_drewN _ _ _⟩|exact ⟨rfl,_,Eq.trans (World.drewN_drewN _ _ _) (congrArg (World.drewN _) (Nat.add_assoc _ _ _))⟩))|(go_at_call 172;(with_reducible refine (gP.calls (rd (ag aa ald) 1) 0 (wrap64 (af - 1)) false _ qg.out).mono ?_);rintro e w' ⟨rfl,⟨nd,rfl⟩⟩;(try first|exact ⟨rfl,_,World.drewN_drewN _ _ _⟩|exact ⟨rfl,_,Eq.trans (World.drewN_drewN _ _ _) (congrArg (World.drewN _) (Nat.add_assoc _ _ _))⟩))))
       go_ret
       exact ⟨by first|rfl|(simp [bA,bB]<;>rfl)|(simp [*,bA,bB]<;>rfl),bl⟩
      subst c17
      have H1:(eu.l0 k2 (wrap64 (ald+1)) af aa)=some r:=by rw [if_pos rfl] at H;exact H
      clear H
      have H:=H1
      clear H1
      have H':=k0 H
      clear H
      have CW:wr.cell? ⟨ai,0,none⟩=some (.int .i64 af):=(av ah.out 0).trans rfl
      have CX:wr.cell? ⟨ai,1,none⟩=some (.slice au aa.length aq):=(av ah.out 1).trans rfl
      have C1:=ale ah.out 0
      have C2:=ale ah.out 1
      have dQ:0≤(ald:Int):=oD
      have dR:ald < (aa.length:Int):=oD
      obtain ⟨ji,vu,vO,e103,en,jA,jy⟩:=cZ alx.out ald dQ dR
      cases e103
      replace en:=hbc HB en
      have qp:=k0 jy
      have vD:=k0 jA
      clear jy jA
      replace dQ:=eq_true dQ
      replace dR:=eq_true dR
      have cV:0≤(ald:Int):=oD
      have cW:ald < (aa.length:Int):=oD
      obtain ⟨ku,vv,vP,e104,cN,lp,lg⟩:=cZ alx.out ald cV cW
      obtain rfl:ji=ku:=(by injection e104)
      replace cN:=hbc HB cN
      have rX:=k0 lg
      have vE:=k0 lp
      clear lg lp
      replace cV:=eq_true cV
      replace cW:=eq_true cW
      have aW:=Option.some.inj (en.symm.trans cN)
      injection aW with aW aly c_
      subst aW
      subst c_
      clear aly
      have dg:0≤(0:Int):=(by omega)
      have cX:0 < ((ag aa ald).length:Int):=oD
      obtain ⟨kz,e105,dX⟩:=Kd.bS rX.out 0 dg cX
      cases e105
      have D8:(0 < (ag aa ald).length)=True:=eq_true (by omega)
      (try rw [show ((0:Int)).toNat=0 from rfl] at dX)
      (try rw [Addr.add_zero'] at dX)
      replace dX:=hbc HB dX
      replace dg:=eq_true dg
      replace cX:=eq_true cX
      have gv:0≤(ald:Int):=oD
      have gx:ald < (aa.length:Int):=oD
      obtain ⟨pV,Ex,Fi,e107,fX,qI,qF⟩:=cZ alx.out ald gv gx
      obtain rfl:ji=pV:=(by injection e107)
      replace fX:=hbc HB fX
      have vG:=k0 qF
      have EJ:=k0 qI
      clear qF qI
      replace gv:=eq_true gv
      replace gx:=eq_true gx
      have aW:=Option.some.inj (en.symm.trans fX)
      injection aW with aW aly c_
      subst aW
      subst c_
      clear aly
      have ef:0≤(1:Int):=(by omega)
      have dS:1 < ((ag aa ald).length:Int):=oD
      obtain ⟨al1,e108,fu⟩:=Kd.bS vG.out 1 ef dS
      cases e108
      (try simp only [show (1:Int).toNat=1 from rfl,Nat.reduceMul,Nat.reduceEqDiff,Go.Addr.add,↓reduceIte] at fu)
      have ad9:(1 < (ag aa ald).length)=True:=eq_true (by omega)
      (try rw [show ((1:Int)).toNat=1 from rfl] at fu)
      replace fu:=hbc HB fu
      replace ef:=eq_true ef
      replace dS:=eq_true dS
      go_wp2_with (first|(go_at_call 172;(with_reducible refine (gP.calls (rd (ag aa ald) 0) 0 (wrap64 (af - 1)) true _ o9.out).mono ?_);rintro e w' ⟨rfl,⟨nd,rfl⟩⟩;(try first|exact ⟨rfl,_,World.drewN_drewN _ _ _⟩|exact ⟨rfl,_,Eq.trans (World.drewN_drewN _ _ _) (congrArg (World.drewN _) (Nat.add_assoc _ _ _))⟩))|(go_at_call 172;(with_reducible refine (gP.calls (rd (ag aa ald) 1) 0 (wrap64 (af - 1)) true _ qg.out).mono ?_);rintro e w' ⟨rfl,⟨nd,rfl⟩⟩;(try first|exact ⟨rfl,_,World.drewN_drewN _ _ _⟩|exact ⟨rfl,_,Eq.trans (World.drewN_drewN _ _ _) (congrArg (World.drewN _) (Nat.add_assoc _ _ _))⟩)))
      repeat (go_quiet (first|(go_at_call 172;(with_reducible refine (gP.calls (rd (ag aa ald) 0) 0 (wrap64 (af - 1)) true _ o9.out).mono ?_);rintro e w' ⟨rfl,⟨nd,rfl⟩⟩;(try first|exact ⟨rfl,_,World.drewN_drewN _ _ _⟩|exact ⟨rfl,_,Eq.trans (World.drewN_drewN _ _ _) (congrArg (World.drewN _) (Nat.add_assoc _ _ _))⟩))|(go_at_call 172;(with_reducible refine (gP.calls (rd (ag aa ald) 1) 0 (wrap64 (af - 1)) true _ qg.out).mono ?_);rintro e w' ⟨rfl,⟨nd,rfl⟩⟩;(try first|exact ⟨rfl,_,World.drewN_drewN _ _ _⟩|exact ⟨rfl,_,Eq.trans (World.drewN_drewN _ _ _) (congrArg (World.drewN _) (Nat.add_assoc _ _ _))⟩)));try go_wp2_with (first|(go_at_call 172;(with_reducible refine (gP.calls (rd (ag aa ald) 0) 0 (wrap64 (af - 1)) true _ o9.out).mono ?_);rintro e w' ⟨rfl,⟨nd,rfl⟩⟩;(try first|exact ⟨rfl,_,World.drewN_drewN _ _ _⟩|exact ⟨rfl,_,Eq.trans (World.drewN_drewN _ _ _) (congrArg (World.drewN _) (Nat.add_assoc _ _ _))⟩))|(go_at_call 172;(with_reducible refine (gP.calls (rd (ag aa ald) 1) 0 (wrap64 (af - 1)) true _ qg.out).mono ?_);rintro e w' ⟨rfl,⟨nd,rfl⟩⟩;(try first|exact ⟨rfl,_,World.drewN_drewN _ _ _⟩|exact ⟨rfl,_,Eq.trans (World.drewN_drewN _ _ _) (congrArg (World.drewN _) (Nat.add_assoc _ _ _))⟩))))
      go_roundg k2
      case measure=>have:=Nw.out;have:=bp.out;omega
      case rel=>exact ⟨(wrap64 (ald+1)),rs,H',⟨by have:=Nw.out;have:=bp.out;omega⟩,⟨bk⟩,⟨bl⟩⟩
   subst c8
   have H1:(some false)=some r:=by rw [if_pos rfl] at H;exact H
   clear H
   have H:=H1
   clear H1
   obtain rfl:=Option.some.inj H
   go_wp2
   repeat (go_quiet (fail);try go_wp2)
   go_ret
   exact ⟨by first|rfl|(simp [bA,bB]<;>rfl)|(simp [*,bA,bB]<;>rfl),bl⟩
/-! ### F171: function 171 -/
mutual
def fc.l0 : Nat → List (List Int) → Int → Int → List (List Int) → Option (Int)
 | 0,_,_,_,_=>none
 | k+1,x1,x5,bU,bN=>if x5 < (x1.length:Int) then (if 0≤x5 then (if ((ag x1 x5).length:Int)=bU then (fc.l1 k x1 x5 0 bU bN) else (some 2)) else (none)) else (some 0)
def fc.l1 : Nat → List (List Int) → Int → Int → Int → List (List Int) → Option (Int)
 | 0,_,_,_,_,_=>none
 | k+1,x1,x5,x6,bU,bN=>if 0≤x5 then (if x5 < (x1.length:Int) then (if x6 < ((ag x1 x5).length:Int) then (if 0≤x6 then ((gP.f (rd (ag x1 x5) x6) (-200) 200).bind fun t107=>(if t107=true then (fc.l1 k x1 x5 (wrap64 (x6+1)) bU bN) else (some 2))) else (none)) else (fc.l0 k x1 (wrap64 (x5+1)) bU bN)) else (none)) else (none)
end
def fc.f (k:Nat) (af:Int) (aa:List (List Int)) (l1:List (List Int)):Option (Int):=(eu.f k af aa).bind fun t102=>(if t102=true then (fc.l0 k l1 0 af aa) else (some 1))
theorem fc.cj : ∀ k, (∀ y0 y1 y2 y3, aj (fc.l0 k y0 y1 y2 y3) (fc.l0 (k + 1) y0 y1 y2 y3)) ∧ (∀ y0 y1 y2 y3 y4, aj (fc.l1 k y0 y1 y2 y3 y4) (fc.l1 (k + 1) y0 y1 y2 y3 y4))
 | 0=>⟨fun _ _ _ _ r h=>by simp [fc.l0] at h,fun _ _ _ _ _ r h=>by simp [fc.l1] at h⟩
 | k+1=>by
  obtain ⟨ali,ih1⟩:=fc.cj k
  refine ⟨?_, ?_⟩ <;> intros <;> (first | unfold fc.l0 | unfold fc.l1) <;> repeat' first
   | (with_reducible first|exact ali _ _ _ _|exact ih1 _ _ _ _ _|exact eu.mono _ _ _|exact aj.refl _|exact aj.none _|refine aj.ite ?_ ?_|refine aj.bind ?_ (fun _=>?_))
   | exact ali _ _ _ _|exact ih1 _ _ _ _ _|exact eu.mono _ _ _|exact aj.none _|refine aj.ite ?_ ?_|refine aj.bind ?_ (fun _=>?_)
theorem fc.mono:∀ a0 a1 a2 k,aj (fc.f k a0 a1 a2) (fc.f (k+1) a0 a1 a2):=by
 intro a0 a1 a2 k
 obtain ⟨ali,ih1⟩:=fc.cj k
 unfold fc.f
 repeat' first
  | (with_reducible first|exact ali _ _ _ _|exact ih1 _ _ _ _ _|exact eu.mono _ _ _|exact aj.refl _|exact aj.none _|refine aj.ite ?_ ?_|refine aj.bind ?_ (fun _=>?_))
  | exact ali _ _ _ _|exact ih1 _ _ _ _ _|exact eu.mono _ _ _|exact aj.none _|refine aj.ite ?_ ?_|refine aj.bind ?_ (fun _=>?_)
set_option maxHeartbeats 8000000 in
set_option maxRecDepth 100000 in
theorem fc.calls (k : Nat) (af : Int) (au : Option Addr) (aq : Nat) (aa : List (List Int)) (A1 : Option Addr) (c1 : Nat) (l1 : List (List Int)) (r : Int) (w : World) (cl : Kd.C (Kd.slice 2 (Kd.int .i64)) w au aa.length aa) (cn : aa.length ≤ aq) (cE : Kd.C (Kd.slice 2 (Kd.int .i64)) w A1 l1.length l1) (dW : l1.length ≤ c1) (h : fc.f k af aa l1 = some r) :
  Calls Try.prog 171 #[.agg #[.int .i64 af,.slice au aa.length aq],.slice A1 l1.length c1] w fun e w'=>e=.returned (.int .i64 r)∧Below w.heap.size w w':=by
 have kF:=Try.underlying31
 have alx:=k0 cl
 have di:=k0 cn
 clear cl cn
 have eP:=k0 cE
 have nk:=k0 dW
 clear cE dW
 have HB:=k0 (Below.refl w.heap.size w)
 have H:((eu.f k af aa).bind fun t102=>(if t102=true then (fc.l0 k l1 0 af aa) else (some 1)))=some r:=h
 clear h
 replace H:=Option.bind_eq_some_iff.mp H
 obtain ⟨t102,qh,H⟩:=H
 replace H:(if t102=true then (fc.l0 k l1 0 af aa) else (some 1))=some r:=H
 have A3:=k0 qh
 clear qh
 by_cases c4:t102=true
 case neg =>
  replace c4:=Bool.eq_false_iff.mpr c4
  subst c4
  have H1:(some 1)=some r:=by rw [if_neg (show ¬ (false=true) by decide)] at H;exact H
  clear H
  have H:=H1
  clear H1
  obtain rfl:=Option.some.inj H
  go_enter Try.func171,Try.ntmps171
  go_wp2_with (first|((with_reducible refine cy (N:=2) rfl ?_);refine ec ?hg (N:=2) ?hd (cs:=#[.int .i64 af,.slice au aa.length aq]) (t:=31) ?hr ?_;(case hd=>rfl);(case hg=>rfl);(case hr=>first|(go_simp;done)|(go_simp;rfl));intro ai hg vo aJ hb;have ah:=k0 (aJ);have cr:=k0 ((by rw [hg];exact (aU bl):w.heap.size≤ai));have eL:=cr;replace HB:=k0 (aG bl hb);clear hb aJ hg;have Kk:vo.cell? ⟨ai,0,none⟩=some (.int .i64 af):=(av ah.out 0).trans rfl;have Kl:vo.cell? ⟨ai,1,none⟩=some (.slice au aa.length aq):=(av ah.out 1).trans rfl;have Ky:=ale ah.out 0;have Kz:=ale ah.out 1)|(go_at_call 100;(with_reducible refine (eu.calls k af _ _ aa false _ ?bt ?bu A3.out).mono ?_);(case bt=>exact aC (Kd.bI alx.out HB.out));(case bu=>exact di.out);rintro e yw ⟨rfl,hb⟩;replace ah:=k0 (alg (g:=ai) (o:=sO af au aa aq 31) bk hb);replace HB:=k0 (aG bl hb);(try clear hb)))
  go_ret
  exact ⟨by first|rfl|(simp [bA,bB]<;>rfl)|(simp [*,bA,bB]<;>rfl),bl⟩
 subst c4
 have H1:(fc.l0 k l1 0 af aa)=some r:=by rw [if_pos rfl] at H;exact H
 clear H
 have H:=H1
 clear H1
 have H':=k0 H
 clear H
 go_enter Try.func171,Try.ntmps171
 go_wp2_with (first|((with_reducible refine cy (N:=2) rfl ?_);refine ec ?hg (N:=2) ?hd (cs:=#[.int .i64 af,.slice au aa.length aq]) (t:=31) ?hr ?_;(case hd=>rfl);(case hg=>rfl);(case hr=>first|(go_simp;done)|(go_simp;rfl));intro ai hg w5 aJ hb;have ah:=k0 (aJ);have cr:=k0 ((by rw [hg];exact (aU bl):w.heap.size≤ai));have eL:=cr;replace HB:=k0 (aG bl hb);clear hb aJ hg;have amE:w5.cell? ⟨ai,0,none⟩=some (.int .i64 af):=(av ah.out 0).trans rfl;have wu:w5.cell? ⟨ai,1,none⟩=some (.slice au aa.length aq):=(av ah.out 1).trans rfl;have wE:=ale ah.out 0;have wF:=ale ah.out 1)|(go_at_call 100;(with_reducible refine (eu.calls k af _ _ aa true _ ?bt ?bu A3.out).mono ?_);(case bt=>exact aC (Kd.bI alx.out HB.out));(case bu=>exact di.out);rintro e w7 ⟨rfl,hb⟩;replace ah:=k0 (alg (g:=ai) (o:=sO af au aa aq 31) bk hb);replace HB:=k0 (aG bl hb);(try clear hb)))
 go_loopg [5] k (fun kq v5 w'=>∃ (aI:Int),v5=.int .i64 aI∧ak (fc.l0 kq l1 aI af aa=some r)∧ak (kq≤k)∧ak (w'.heap[ai]?=some (sO af au aa aq 31))∧ak (Below w.heap.size w w'))
 case atStart=>exact ⟨(0),rs,H',⟨Nat.le_refl _⟩,⟨bk⟩,⟨bl⟩⟩
 case round =>
  clear H'
  (try clear c4);(try clear amE);(try clear wu);(try clear wE);(try clear wF)
  obtain ⟨aI,rfl,HA,aM,ah,HB⟩:=hrel
  cases gk with
  | zero=>exact absurd HA.out (by simp [fc.l0])
  | succ k1 =>
   have H:=HA.out
   clear HA
   simp only [fc.l0] at H
   by_cases c8:aI < (l1.length:Int)
   case neg =>
    rw [if_neg c8] at H
    have jw:decide (aI < (l1.length:Int))=false:=decide_eq_false c8
    clear c8
    obtain rfl:=Option.some.inj H
    go_wp2
    go_ret
    exact ⟨by first|rfl|(simp [bA,bB]<;>rfl)|(simp [*,bA,bB]<;>rfl),bl⟩
   rw [if_pos c8] at H
   have jw:=decide_eq_true c8
   clear c8
   replace H:=iS H;obtain ⟨c9,H⟩:=H
   have mg:=decide_eq_true c9
   clear c9
   by_cases c10:((ag l1 aI).length:Int)=af
   case neg =>
    rw [if_neg c10] at H
    have lA:(((ag l1 aI).length:Int) == af)=false:=beq_eq_false_iff_ne.mpr c10
    have vQ:(((ag l1 aI).length:Int) != af)=true:=bne_iff_ne.mpr c10
    obtain rfl:=Option.some.inj H
    have dQ:0≤(aI:Int):=oD
    have dR:aI < (l1.length:Int):=oD
    obtain ⟨ji,vu,vO,e103,en,jA,jy⟩:=cZ eP.out aI dQ dR
    cases e103
    replace en:=hbc HB en
    have qp:=k0 jy
    have vD:=k0 jA
    clear jy jA
    replace dQ:=eq_true dQ
    replace dR:=eq_true dR
    have CW:wr.cell? ⟨ai,0,none⟩=some (.int .i64 af):=(av ah.out 0).trans rfl
    have CX:wr.cell? ⟨ai,1,none⟩=some (.slice au aa.length aq):=(av ah.out 1).trans rfl
    have C1:=ale ah.out 0
    have C2:=ale ah.out 1
    go_wp2
    repeat (go_quiet (fail);try go_wp2)
    go_ret
    exact ⟨by first|rfl|(simp [bA,bB]<;>rfl)|(simp [*,bA,bB]<;>rfl),bl⟩
   rw [if_pos c10] at H
   have lA:(((ag l1 aI).length:Int) == af)=true:=beq_iff_eq.mpr c10
   have vQ:(((ag l1 aI).length:Int) != af)=false:=bne_eq_false_iff_eq.mpr c10
   clear c10
   have H':=k0 H
   clear H
   have dQ:0≤(aI:Int):=oD
   have dR:aI < (l1.length:Int):=oD
   obtain ⟨ji,vu,vO,e103,en,jA,jy⟩:=cZ eP.out aI dQ dR
   cases e103
   replace en:=hbc HB en
   have qp:=k0 jy
   have vD:=k0 jA
   clear jy jA
   replace dQ:=eq_true dQ
   replace dR:=eq_true dR
   have anl:wr.cell? ⟨ai,0,none⟩=some (.int .i64 af):=(av ah.out 0).trans rfl
   have anm:wr.cell? ⟨ai,1,none⟩=some (.slice au aa.length aq):=(av ah.out 1).trans rfl
   have Bb:=ale ah.out 0
   have Bc:=ale ah.out 1
   go_wp2
   repeat (go_quiet (fail);try go_wp2)
   go_loopg [6] k1 (fun kq v6 w'=>∃ (gZ:Int),v6=.int .i64 gZ∧ak (fc.l1 kq l1 aI gZ af aa=some r)∧ak (kq≤k1)∧ak (w'.heap[ai]?=some (sO af au aa aq 31))∧ak (Below w.heap.size w w'))
   case atStart=>exact ⟨(0),rs,H',⟨Nat.le_refl _⟩,⟨bk⟩,⟨bl⟩⟩
   case round =>
    clear H'
    (try clear c4);(try clear c8);(try clear jw);(try clear c9);(try clear mg);(try clear c10);(try clear lA);(try clear vQ);(try clear anl);(try clear anm);(try clear amE);(try clear wu);(try clear Bb);(try clear Bc);(try clear wE);(try clear wF);(try clear en);(try clear dQ);(try clear dR)
    obtain ⟨gZ,rfl,HA,bp,ah,HB⟩:=hrel
    cases gk with
    | zero=>exact absurd HA.out (by simp [fc.l1])
    | succ k2 =>
     have H:=HA.out
     clear HA
     simp only [fc.l1] at H
     replace H:=iS H;obtain ⟨c12,H⟩:=H
     have r7:=decide_eq_true c12
     clear c12
     replace H:=iS H;obtain ⟨c13,H⟩:=H
     have kU:=decide_eq_true c13
     clear c13
     by_cases c14:gZ < ((ag l1 aI).length:Int)
     case neg =>
      rw [if_neg c14] at H
      have kC:decide (gZ < ((ag l1 aI).length:Int))=false:=decide_eq_false c14
      clear c14
      have H':=k0 H
      clear H
      have cV:0≤(aI:Int):=oD
      have cW:aI < (l1.length:Int):=oD
      obtain ⟨ku,vv,vP,e104,cN,lp,lg⟩:=cZ eP.out aI cV cW
      obtain rfl:ji=ku:=(by injection e104)
      replace cN:=hbc HB cN
      have rX:=k0 lg
      have vE:=k0 lp
      clear lg lp
      replace cV:=eq_true cV
      replace cW:=eq_true cW
      go_wp2
      go_roundg k2
      case measure=>have:=aM.out;have:=bp.out;omega
      case rel=>exact ⟨(wrap64 (aI+1)),rs,H',⟨by have:=aM.out;have:=bp.out;omega⟩,⟨bk⟩,⟨bl⟩⟩
     rw [if_pos c14] at H
     have kC:=decide_eq_true c14
     clear c14
     replace H:=iS H;obtain ⟨c15,H⟩:=H
     have kV:=decide_eq_true c15
     clear c15
     replace H:=Option.bind_eq_some_iff.mp H
     obtain ⟨t107,amm,H⟩:=H
     replace H:(if t107=true then (fc.l1 k2 l1 aI (wrap64 (gZ+1)) af aa) else (some 2))=some r:=H
     have qg:=k0 amm
     clear amm
     by_cases c17:t107=true
     case neg =>
      replace c17:=Bool.eq_false_iff.mpr c17
      subst c17
      have H1:(some 2)=some r:=by rw [if_neg (show ¬ (false=true) by decide)] at H;exact H
      clear H
      have H:=H1
      clear H1
      obtain rfl:=Option.some.inj H
      have cV:0≤(aI:Int):=oD
      have cW:aI < (l1.length:Int):=oD
      obtain ⟨ku,vv,vP,e104,cN,lp,lg⟩:=cZ eP.out aI cV cW
      obtain rfl:ji=ku:=(by injection e104)
      replace cN:=hbc HB cN
      have rX:=k0 lg
      have vE:=k0 lp
      clear lg lp
      replace cV:=eq_true cV
      replace cW:=eq_true cW
      have dg:0≤(aI:Int):=oD
      have cX:aI < (l1.length:Int):=oD
      obtain ⟨kz,anp,Ci,e105,dX,qH,qE⟩:=cZ eP.out aI dg cX
      obtain rfl:ji=kz:=(by injection e105)
      replace dX:=hbc HB dX
      have qq:=k0 qE
      have anB:=k0 qH
      clear qE qH
      replace dg:=eq_true dg
      replace cX:=eq_true cX
      have aW:=Option.some.inj (cN.symm.trans dX)
      injection aW with aW aly c_
      subst aW
      subst c_
      clear aly
      have dK:0≤(gZ:Int):=oD
      have dH:gZ < ((ag l1 aI).length:Int):=oD
      obtain ⟨alH,e106,dD⟩:=Kd.bS qq.out gZ dK dH
      cases e106
      replace dD:=hbc HB dD
      replace dK:=eq_true dK
      replace dH:=eq_true dH
      go_wp2_with (first|(go_at_call 172;(with_reducible refine (gP.calls (rd (ag l1 aI) gZ) (-200) 200 false _ qg.out).mono ?_);rintro e w' ⟨rfl,⟨nd,rfl⟩⟩;(try first|exact ⟨rfl,_,World.drewN_drewN _ _ _⟩|exact ⟨rfl,_,Eq.trans (World.drewN_drewN _ _ _) (congrArg (World.drewN _) (Nat.add_assoc _ _ _))⟩)))
      go_ret
      exact ⟨by first|rfl|(simp [bA,bB]<;>rfl)|(simp [*,bA,bB]<;>rfl),bl⟩
     subst c17
     have H1:(fc.l1 k2 l1 aI (wrap64 (gZ+1)) af aa)=some r:=by rw [if_pos rfl] at H;exact H
     clear H
     have H:=H1
     clear H1
     have H':=k0 H
     clear H
     have cV:0≤(aI:Int):=oD
     have cW:aI < (l1.length:Int):=oD
     obtain ⟨ku,vv,vP,e104,cN,lp,lg⟩:=cZ eP.out aI cV cW
     obtain rfl:ji=ku:=(by injection e104)
     replace cN:=hbc HB cN
     have rX:=k0 lg
     have vE:=k0 lp
     clear lg lp
     replace cV:=eq_true cV
     replace cW:=eq_true cW
     have dg:0≤(aI:Int):=oD
     have cX:aI < (l1.length:Int):=oD
     obtain ⟨kz,anp,Ci,e105,dX,qH,qE⟩:=cZ eP.out aI dg cX
     obtain rfl:ji=kz:=(by injection e105)
     replace dX:=hbc HB dX
     have qq:=k0 qE
     have anB:=k0 qH
     clear qE qH
     replace dg:=eq_true dg
     replace cX:=eq_true cX
     have aW:=Option.some.inj (cN.symm.trans dX)
     injection aW with aW aly c_
     subst aW
     subst c_
     clear aly
     have dK:0≤(gZ:Int):=oD
     have dH:gZ < ((ag l1 aI).length:Int):=oD
     obtain ⟨alH,e106,dD⟩:=Kd.bS qq.out gZ dK dH
     cases e106
     replace dD:=hbc HB dD
     replace dK:=eq_true dK
     replace dH:=eq_true dH
     go_wp2_with (first|(go_at_call 172;(with_reducible refine (gP.calls (rd (ag l1 aI) gZ) (-200) 200 true _ qg.out).mono ?_);rintro e w' ⟨rfl,⟨nd,rfl⟩⟩;(try first|exact ⟨rfl,_,World.drewN_drewN _ _ _⟩|exact ⟨rfl,_,Eq.trans (World.drewN_drewN _ _ _) (congrArg (World.drewN _) (Nat.add_assoc _ _ _))⟩)))
     go_roundg k2
     case measure=>have:=aM.out;have:=bp.out;omega
     case rel=>exact ⟨(wrap64 (gZ+1)),rs,H',⟨by have:=aM.out;have:=bp.out;omega⟩,⟨bk⟩,⟨bl⟩⟩
end Go.Proofs.Ytoebojnhchocaaa.B
/- Set with little white space, by a program. -/
