/- The functions that one law reaches, each as a Lean function, and that Go's call comes to what it says. Condition of each: that the Lean function answers (is not none). -/
import Derived.Test.YtoebojnhchocaaaBx0
namespace Go.Proofs.Ytoebojnhchocaaa.B
open Go.RowKit Go.Proofs.bC.eg Go.Proofs.bC.iZ Go.Proofs.bC.jr
attribute [local go_sem] max2_int min2_int max_two min_two max_three min_three max_four min_four   -- for this text's walks alone
set_option linter.unusedVariables false
set_option linter.unusedSimpArgs false
/-! ### F176: function 176 -/
theorem O0 (l:List Bool) (h:l.length=8):∃ b0 b1 b2 b3 b4 b5 b6 b7,l=[b0,b1,b2,b3,b4,b5,b6,b7]:=by
 match l,h with
 | [b0,b1,b2,b3,b4,b5,b6,b7],_=>exact ⟨b0,b1,b2,b3,b4,b5,b6,b7,rfl⟩
theorem WU {w:World} {t:Nat} (xs:List Bool) (hm:xs.length≤9223372036854775807:=by decide):Kd.R Kd.bool t (w.alloc (.cells (xs.map Value.bool).toArray t (0,0))) w.heap.size (fun _=>True) (.slice (some ⟨w.heap.size,0,none⟩) xs.length xs.length) xs:=by
 refine Kd.Ay ?_ (fun _ _=>trivial)
 have h2:=World.ownsRow_lit (base:=w.heap.size) (e:=t) (size:=1) w (xs.map Value.bool).toArray xs.length (Nat.le_refl _) (by simpa [maxLen] using hm) (by simp)
 simpa [fj] using h2
theorem AI {w:World} {t g base:Nat} {ok:Nat→Prop} {v:Value} {xs:List Bool} (hv:v=.slice (some ⟨g,0,none⟩) 8 8) (h:Kd.R Kd.bool t w base ok v xs):xs.length=8:=by
 subst hv
 have:=(Kd.bn h).1
 omega
theorem qy {w:World} {t g base:Nat} {ok:Nat→Prop} {v:Value} {xs:List Bool} (hv:v=.slice (some ⟨g,0,none⟩) 8 8) (h:Kd.R Kd.bool t w base ok v xs) (i:Int) (h0:0≤i) (h1:i < (xs.length:Int)):w.cell? ⟨g,i.toNat,none⟩=some (.bool (nS false xs i)):=by
 have hl:=AI hv h
 subst hv
 exact (Kd.js false h i h0 (by omega)).1
theorem Oh {w:World} {t g base:Nat} {ok:Nat→Prop} {v:Value} {b0 b1 b2 b3 b4 b5 b6 b7:Bool} (hv:v=.slice (some ⟨g,0,none⟩) 8 8) (h:Kd.R Kd.bool t w base ok v [b0,b1,b2,b3,b4,b5,b6,b7]):w.cell? ⟨g,0,none⟩=some (.bool b0)∧w.cell? ⟨g,1,none⟩=some (.bool b1)∧w.cell? ⟨g,2,none⟩=some (.bool b2)∧w.cell? ⟨g,3,none⟩=some (.bool b3)∧w.cell? ⟨g,4,none⟩=some (.bool b4)∧w.cell? ⟨g,5,none⟩=some (.bool b5)∧w.cell? ⟨g,6,none⟩=some (.bool b6)∧w.cell? ⟨g,7,none⟩=some (.bool b7) :=
 ⟨qy hv h 0 (by decide) (by simp),qy hv h 1 (by decide) (by simp),qy hv h 2 (by decide) (by simp),qy hv h 3 (by decide) (by simp),qy hv h 4 (by decide) (by simp),qy hv h 5 (by decide) (by simp),qy hv h 6 (by decide) (by simp),qy hv h 7 (by decide) (by simp)⟩
mutual
def bz.l0 : Nat → List (List Int) → List Int → Int → List Bool → Bool → Int → Option (List Bool × Bool)
 | 0,_,_,_,_,_,_=>none
 | k+1,x0,x1,x2,x8,x9,alB=>if alB < (x0.length:Int) then (if 0≤alB then (if alB < (8:Int) then (bz.l0 k x0 x1 x2 (x8.set (alB:Int).toNat (alB != x2)) x9 (wrap64 (alB+1))) else (none)) else (none)) else (bz.l1 k x0 x1 x8 x9 true)
def bz.l1 : Nat → List (List Int) → List Int → List Bool → Bool → Bool → Option (List Bool × Bool)
 | 0,_,_,_,_,_=>none
 | k+1,x0,x1,x8,x9,fF=>if fF=true then (bz.l2 k x0 x1 x8 x9 false 0) else (bz.l4 k x0 x8 x9 0)
def bz.l2 : Nat → List (List Int) → List Int → List Bool → Bool → Bool → Int → Option (List Bool × Bool)
 | 0,_,_,_,_,_,_=>none
 | k+1,x0,x1,x8,x9,fF,gN=>if gN < (x0.length:Int) then (bz.l3 k x0 x1 x8 x9 fF gN 0 0) else (bz.l1 k x0 x1 x8 x9 fF)
def bz.l3 : Nat → List (List Int) → List Int → List Bool → Bool → Bool → Int → Int → Int → Option (List Bool × Bool)
 | 0,_,_,_,_,_,_,_,_=>none
 | k+1,x0,x1,x8,x9,fF,gN,jm,oQ=>if oQ < (x0.length:Int) then (if gN=oQ then (bz.l3 k x0 x1 x8 x9 fF gN jm (wrap64 (oQ+1))) else (if 0≤oQ then (if oQ < (8:Int) then (if nS false x8 oQ=true then (bz.l3 k x0 x1 x8 x9 fF gN jm (wrap64 (oQ+1))) else (if 0≤gN then (if gN < (x0.length:Int) then (if oQ < ((ag x0 gN).length:Int) then (bz.l3 k x0 x1 x8 x9 fF gN (wrap64 (jm - (rd (ag x0 gN) oQ))) (wrap64 (oQ+1))) else (none)) else (none)) else (none))) else (none)) else (none))) else (if 0≤gN then (if gN < (8:Int) then (if nS false x8 gN=true then (if gN < (x1.length:Int) then (if jm > (rd x1 gN) then (bz.l2 k x0 x1 (x8.set (gN:Int).toNat false) x9 true (wrap64 (gN+1))) else (bz.l2 k x0 x1 x8 x9 fF (wrap64 (gN+1)))) else (none)) else (bz.l2 k x0 x1 x8 x9 fF (wrap64 (gN+1)))) else (none)) else (none))
def bz.l4 : Nat → List (List Int) → List Bool → Bool → Int → Option (List Bool × Bool)
 | 0,_,_,_,_=>none
 | k+1,x0,x8,x9,gO=>if gO < (x0.length:Int) then (if x9=true then (bz.l4 k x0 x8 true (wrap64 (gO+1))) else (if 0≤gO then (if gO < (8:Int) then (bz.l4 k x0 x8 (nS false x8 gO) (wrap64 (gO+1))) else (none)) else (none))) else (some (x8,x9))
end
def bz.fA (k:Nat) (l0:List (List Int)) (l1:List Int) (a2:Int):Option (List Bool × Bool):=if 8≤281474976710656 then (bz.l0 k l0 l1 a2 (List.replicate 8 false) false 0) else (none)
theorem bz.cj : ∀ k, (∀ y0 y1 y2 y3 y4 y5, aj (bz.l0 k y0 y1 y2 y3 y4 y5) (bz.l0 (k + 1) y0 y1 y2 y3 y4 y5)) ∧ (∀ y0 y1 y2 y3 y4, aj (bz.l1 k y0 y1 y2 y3 y4) (bz.l1 (k + 1) y0 y1 y2 y3 y4)) ∧ (∀ y0 y1 y2 y3 y4 y5, aj (bz.l2 k y0 y1 y2 y3 y4 y5) (bz.l2 (k + 1) y0 y1 y2 y3 y4 y5)) ∧ (∀ y0 y1 y2 y3 y4 y5 y6 y7, aj (bz.l3 k y0 y1 y2 y3 y4 y5 y6 y7) (bz.l3 (k + 1) y0 y1 y2 y3 y4 y5 y6 y7)) ∧ (∀ y0 y1 y2 y3, aj (bz.l4 k y0 y1 y2 y3) (bz.l4 (k + 1) y0 y1 y2 y3))
 | 0=>⟨fun _ _ _ _ _ _ r h=>by simp [bz.l0] at h,fun _ _ _ _ _ r h=>by simp [bz.l1] at h,fun _ _ _ _ _ _ r h=>by simp [bz.l2] at h,fun _ _ _ _ _ _ _ _ r h=>by simp [bz.l3] at h,fun _ _ _ _ r h=>by simp [bz.l4] at h⟩
 | k+1=>by
  obtain ⟨ali,ih1,ih2,ih3,ih4⟩:=bz.cj k
  refine ⟨?_, ?_, ?_, ?_, ?_⟩ <;> intros <;> (first | unfold bz.l0 | unfold bz.l1 | unfold bz.l2 | unfold bz.l3 | unfold bz.l4) <;> repeat' first
   | (with_reducible first|exact ali _ _ _ _ _ _|exact ih1 _ _ _ _ _|exact ih2 _ _ _ _ _ _|exact ih3 _ _ _ _ _ _ _ _|exact ih4 _ _ _ _|exact aj.refl _|exact aj.none _|refine aj.ite ?_ ?_|refine aj.bind ?_ (fun _=>?_))
   | exact ali _ _ _ _ _ _|exact ih1 _ _ _ _ _|exact ih2 _ _ _ _ _ _|exact ih3 _ _ _ _ _ _ _ _|exact ih4 _ _ _ _|exact aj.none _|refine aj.ite ?_ ?_|refine aj.bind ?_ (fun _=>?_)
theorem bz.Bs:∀ a0 a1 a2 k,aj (bz.fA k a0 a1 a2) (bz.fA (k+1) a0 a1 a2):=by
 intro a0 a1 a2 k
 obtain ⟨ali,ih1,ih2,ih3,ih4⟩:=bz.cj k
 unfold bz.fA
 repeat' first
  | (with_reducible first|exact ali _ _ _ _ _ _|exact ih1 _ _ _ _ _|exact ih2 _ _ _ _ _ _|exact ih3 _ _ _ _ _ _ _ _|exact ih4 _ _ _ _|exact aj.refl _|exact aj.none _|refine aj.ite ?_ ?_|refine aj.bind ?_ (fun _=>?_))
  | exact ali _ _ _ _ _ _|exact ih1 _ _ _ _ _|exact ih2 _ _ _ _ _ _|exact ih3 _ _ _ _ _ _ _ _|exact ih4 _ _ _ _|exact aj.none _|refine aj.ite ?_ ?_|refine aj.bind ?_ (fun _=>?_)
set_option maxHeartbeats 8000000 in
set_option maxRecDepth 100000 in
theorem bz.yT (k : Nat) (A0 : Option Addr) (c0 : Nat) (l0 : List (List Int)) (A1 : Option Addr) (c1 : Nat) (l1 : List Int) (a2 : Int) (r1 : List Bool) (r2 : Bool) (W0 : World) (cI : Kd.C (Kd.slice 2 (Kd.int .i64)) W0 A0 l0.length l0) (hc0 : l0.length ≤ c0) (cE : Kd.C (Kd.int .i64) W0 A1 l1.length l1) (dW : l1.length ≤ c1) (h : bz.fA k l0 l1 a2 = some (r1, r2)) :
  Calls Try.prog 176 #[.slice A0 l0.length c0,.slice A1 l1.length c1,.int .i64 a2] W0 fun e w'=>(e=.returned (.tuple #[.agg (r1.map Value.bool).toArray,.bool r2])∧r1.length=8)∧Below W0.heap.size W0 w':=by
 have eA:=k0 cI
 have kP:=k0 hc0
 clear cI hc0
 have eP:=k0 cE
 have nk:=k0 dW
 clear cE dW
 have H:(if 8≤281474976710656 then (bz.l0 k l0 l1 a2 (List.replicate 8 false) false 0) else (none))=some (r1,r2):=h
 clear h
 replace H:=iS H;obtain ⟨c4,H⟩:=H
 have eV:=eq_true c4
 have ow:=decide_eq_true c4
 clear c4
 obtain ⟨iJ,fy⟩:∃ y_:List Bool,y_=(List.replicate 8 false):=⟨_,rfl⟩
 replace H:(bz.l0 k l0 l1 a2 iJ false 0)=some (r1,r2):=by first|(rw [fy];with_reducible exact H)|(have ax:=(Option.bind_some _ _).symm.trans H;rw [fy];with_reducible exact ax)|(have ax:=(Option.bind_some _ _).symm.trans H;with_reducible exact ax)|with_reducible exact H|(rw [fy];exact H)|exact H
 have lz:=k0 fy
 clear fy
 have H':=k0 H
 clear H
 go_enter Try.func176,Try.ntmps176
 go_wp2
 have HW:=k0 (bL (Below.refl W0.heap.size W0) (.cells #[Value.bool false,.bool false,.bool false,.bool false,.bool false,.bool false,.bool false,.bool false] 133 (0,0)))
 have Ae:=k0 (heap_alloc_new W0 (.cells #[Value.bool false,.bool false,.bool false,.bool false,.bool false,.bool false,.bool false,.bool false] 133 (0,0)))
 have GR:=k0 (Nat.le_refl W0.heap.size)
 have F6:(W0.alloc (.cells #[Value.bool false,.bool false,.bool false,.bool false,.bool false,.bool false,.bool false,.bool false] 133 (0,0))).heap.size=W0.heap.size+1:=by unfold World.alloc;exact Array.size_push _
 generalize abB:W0.heap.size=gR at Ae F6 ⊢
 replace GR:ak (W0.heap.size≤gR):=⟨by omega⟩
 clear abB
 replace eA:=k0 (Kd.bI eA.out HW.out);replace eP:=k0 (Kd.bI eP.out HW.out)
 generalize W0.alloc (.cells #[Value.bool false,.bool false,.bool false,.bool false,.bool false,.bool false,.bool false,.bool false] 133 (0,0))=w at eA eP HW Ae F6 ⊢
 have HB:=k0 (bL (Below.refl w.heap.size w) (.cells #[Value.bool false,.bool false,.bool false,.bool false,.bool false,.bool false,.bool false,.bool false] 133 (0,0)))
 have kQ:=k0 (WU (w:=w) (t:=133) (List.replicate 8 false))
 rw [← lz.out] at kQ
 obtain ⟨gL,zq⟩:∃ g:Nat,g=gR+1:=⟨_,rfl⟩
 rw [← zq]
 obtain ⟨lT,zG⟩:∃ v_:Value,v_=.slice (some ⟨gL,0,none⟩) 8 8:=⟨_,rfl⟩
 have HV:=k0 zG
 have aK:ak (Kd.R Kd.bool 133 (w.alloc (.cells #[Value.bool false,.bool false,.bool false,.bool false,.bool false,.bool false,.bool false,.bool false] 133 (0,0))) w.heap.size (fun _=>True) lT iJ):=⟨by rw [zG,zq,← F6];have h_:=kQ.out;rw [lz.out] at h_ ⊢;exact h_⟩
 clear kQ zG zq F6
 have kQ:=aK
 clear aK
 generalize w.alloc (.cells #[Value.bool false,.bool false,.bool false,.bool false,.bool false,.bool false,.bool false,.bool false] 133 (0,0))=ws at kQ HB ⊢
 go_loopg [10] k (fun kq v10 w'=>∃ (bF:List Bool) (eF:Int),v10=.int .i64 eF∧ak (bz.l0 kq l0 l1 a2 bF false eF=some (r1,r2))∧ak (kq≤k)∧ak (Kd.R Kd.bool 133 w' w.heap.size (fun _=>True) lT bF)∧ak (Below w.heap.size w w'))
 case atStart=>exact ⟨(iJ),(0),rs,H',⟨Nat.le_refl _⟩,⟨aR (kQ.out)⟩,⟨bl⟩⟩
 case round =>
  clear H'
  (try clear c4);(try clear eV);(try clear ow)
  obtain ⟨bF,eF,rfl,HA,aM,bG,HB⟩:=hrel
  have P0:=AI HV.out bG.out
  cases gk with
  | zero=>exact absurd HA.out (by simp [bz.l0])
  | succ k1 =>
   have H:=HA.out
   clear HA
   simp only [bz.l0] at H
   by_cases c7:eF < (l0.length:Int)
   case neg =>
    rw [if_neg c7] at H
    have iz:decide (eF < (l0.length:Int))=false:=decide_eq_false c7
    clear c7
    have H':=k0 H
    clear H
    go_wp2
    go_loopg [11] k1 (fun kq v11 w'=>∃ (mF:List Bool) (fM:Bool),v11=.bool fM∧ak (bz.l1 kq l0 l1 mF false fM=some (r1,r2))∧ak (kq≤k1)∧ak (Kd.R Kd.bool 133 w' w.heap.size (fun _=>True) lT mF)∧ak (Below w.heap.size w w'))
    case atStart=>exact ⟨(bF),(true),rs,H',⟨Nat.le_refl _⟩,⟨aR (bG.out)⟩,⟨bl⟩⟩
    case round =>
     clear H'
     (try clear c4);(try clear eV);(try clear ow);(try clear c7);(try clear iz);(try clear c8);(try clear jw);(try clear c9);(try clear mg);(try clear al7);(try clear al9);(try clear Bn);(try clear al7);(try clear al9)
     obtain ⟨mF,fM,rfl,HA,bp,bG,HB⟩:=hrel
     have aab:=AI HV.out bG.out
     cases gk with
     | zero=>exact absurd HA.out (by simp [bz.l1])
     | succ k2 =>
      have H:=HA.out
      clear HA
      simp only [bz.l1] at H
      by_cases c13:fM=true
      case neg =>
       replace c13:=Bool.eq_false_iff.mpr c13
       subst c13
       have H1:(bz.l4 k2 l0 mF false 0)=some (r1,r2):=by rw [if_neg (show ¬ (false=true) by decide)] at H;exact H
       clear H
       have H:=H1
       clear H1
       have H':=k0 H
       clear H
       go_wp2
       go_loopg [9,15] k2 (fun kq v9 Ma w'=>∃ (G_:Bool) (nX:Int),v9=.bool G_∧Ma=.int .i64 nX∧ak (bz.l4 kq l0 mF G_ nX=some (r1,r2))∧ak (kq≤k2)∧ak (Kd.R Kd.bool 133 w' w.heap.size (fun _=>True) lT mF)∧ak (Below w.heap.size w w'))
       case atStart=>exact ⟨(false),(0),rs,rs,H',⟨Nat.le_refl _⟩,⟨aR (bG.out)⟩,⟨bl⟩⟩
       case round =>
        clear H'
        (try clear c4);(try clear eV);(try clear ow);(try clear c7);(try clear iz);(try clear c8);(try clear jw);(try clear c9);(try clear mg);(try clear al7);(try clear al9);(try clear c13);(try clear c14);(try clear kC);(try clear c15);(try clear kV);(try clear c16);(try clear rm);(try clear AP);(try clear c17);(try clear pF);(try clear c18);(try clear uP);(try clear c20);(try clear c22);(try clear rq);(try clear c23);(try clear r9);(try clear c24);(try clear uR);(try clear c26);(try clear xx);(try clear c27);(try clear amp);(try clear c29);(try clear c30);(try clear Jf);(try clear c31);(try clear ou);(try clear D3);(try clear D6);(try clear dX);(try clear dD);(try clear fX);(try clear fu);(try clear alI);(try clear Bn);(try clear ab_);(try clear al7);(try clear dg);(try clear dK);(try clear gv);(try clear ef);(try clear eD);(try clear D3);(try clear al9);(try clear cX);(try clear dH);(try clear gx);(try clear dS);(try clear er);(try clear D6)
        obtain ⟨G_,nX,rfl,rfl,HA,dn,bG,HB⟩:=hrel
        cases gk with
        | zero=>exact absurd HA.out (by simp [bz.l4])
        | succ k3 =>
         have H:=HA.out
         clear HA
         simp only [bz.l4] at H
         by_cases c38:nX < (l0.length:Int)
         case neg =>
          rw [if_neg c38] at H
          have xy:decide (nX < (l0.length:Int))=false:=decide_eq_false c38
          clear c38
          simp only [Option.some.injEq,Prod.mk.injEq] at H
          obtain ⟨rfl,rfl⟩:=H
          have RC:=AI HV.out bG.out
          obtain ⟨b0,b1,b2,b3,b4,b5,b6,b7,P6⟩:=O0 _ RC
          rw [P6] at bG
          obtain ⟨ahu,ahv,ahw,ahx,ahy,ahz,ahA,ahB⟩:=Oh HV.out bG.out
          replace Ae:=k0 (alg Ae.out HB.out)
          have F5:=Tt (P:=Try.prog) (w:=wr) (g:=gR) (o:=0) 133 (.agg #[.bool b0,.bool b1,.bool b2,.bool b3,.bool b4,.bool b5,.bool b6,.bool b7]) [.bool b0,.bool b1,.bool b2,.bool b3,.bool b4,.bool b5,.bool b6,.bool b7] Ae.out rfl (by kernel_rfl) (by simp) (by simp [Value.oneCell'])
          go_wp2_with ((with_reducible refine kW (t:=133) (p:=6) rfl ?_);refine alT (t:=133) (p:=6) (v:=?aff) (w1:=wr.setCells gR 0 [.bool b0,.bool b1,.bool b2,.bool b3,.bool b4,.bool b5,.bool b6,.bool b7]) ?hg ?ho ?hn ?hr ?_;(case ho=>rfl);(case hg=>rfl);(case hn=>rfl);(case hr=>(unfold execOp;dsimp only;(show Sem.run Try.prog (do Instr.storeAt 133 (Value.pointer (some ⟨gR,0,none⟩)) (.agg #[.bool b0,.bool b1,.bool b2,.bool b3,.bool b4,.bool b5,.bool b6,.bool b7]);pure Next.skip) wr=_);rw [Sem.run_bind,F5];rfl));intro wz hw)
          subst hw
          obtain ⟨Fv,xN,Qc,FJ⟩:=vk [.bool b0,.bool b1,.bool b2,.bool b3,.bool b4,.bool b5,.bool b6,.bool b7] 0 wr _ Ae.out (by simp)
          have anD:Fv=#[.bool b0,.bool b1,.bool b2,.bool b3,.bool b4,.bool b5,.bool b6,.bool b7]:=Array.toList_inj.1 (by rw [FJ];rfl)
          rw [anD] at xN
          have anj:Below W0.heap.size W0 (wr.setCells gR 0 [.bool b0,.bool b1,.bool b2,.bool b3,.bool b4,.bool b5,.bool b6,.bool b7]):=by
           simp only [World.setCells]
           exact dI (dI (dI (dI (dI (dI (dI (dI (aG HW.out HB.out) GR.out) GR.out) GR.out) GR.out) GR.out) GR.out) GR.out) GR.out
          generalize wr.setCells gR 0 [.bool b0,.bool b1,.bool b2,.bool b3,.bool b4,.bool b5,.bool b6,.bool b7]=wz at xN anj ⊢
          refine bodyPost_ret (aep rfl _ _ gR 133 #[.bool b0,.bool b1,.bool b2,.bool b3,.bool b4,.bool b5,.bool b6,.bool b7] (0,0) _ rfl xN Try.underlying133 rfl (by kernel_rfl)) rfl ?_
          exact ⟨⟨by rw [P6];rfl,RC⟩,anj⟩
         rw [if_pos c38] at H
         have xy:=decide_eq_true c38
         clear c38
         by_cases c39:G_=true
         case neg =>
          replace c39:=Bool.eq_false_iff.mpr c39
          subst c39
          have H1:(if 0≤nX then (if nX < (8:Int) then (bz.l4 k3 l0 mF (nS false mF nX) (wrap64 (nX+1))) else (none)) else (none))=some (r1,r2):=by rw [if_neg (show ¬ (false=true) by decide)] at H;exact H
          clear H
          have H:=H1
          clear H1
          replace H:=iS H;obtain ⟨c40,H⟩:=H
          have vT:=decide_eq_true c40
          clear c40
          replace H:=iS H;obtain ⟨c41,H⟩:=H
          have AU:=decide_eq_true c41
          have agC:(nX < (8:Int))=True:=eq_true c41
          have agB:decide (nX < (mF.length:Int))=true:=decide_eq_true (by rw [aab];exact c41)
          clear c41
          have H':=k0 H
          clear H
          have gw:0≤(nX:Int):=oD
          have gy:nX < (mF.length:Int):=oD
          have gX:=qy HV.out bG.out nX gw gy
          replace gw:=eq_true gw
          replace gy:=eq_true gy
          go_wp2
          go_roundg k3
          case measure=>have:=aM.out;have:=bp.out;have:=dn.out;omega
          case rel=>exact ⟨(nS false mF nX),(wrap64 (nX+1)),rs,rs,H',⟨by have:=aM.out;have:=bp.out;have:=dn.out;omega⟩,⟨aR (bG.out)⟩,⟨bl⟩⟩
         subst c39
         have H1:(bz.l4 k3 l0 mF true (wrap64 (nX+1)))=some (r1,r2):=by rw [if_pos rfl] at H;exact H
         clear H
         have H:=H1
         clear H1
         have H':=k0 H
         clear H
         go_wp2
         go_roundg k3
         case measure=>have:=aM.out;have:=bp.out;have:=dn.out;omega
         case rel=>exact ⟨(true),(wrap64 (nX+1)),rs,rs,H',⟨by have:=aM.out;have:=bp.out;have:=dn.out;omega⟩,⟨aR (bG.out)⟩,⟨bl⟩⟩
      subst c13
      have H1:(bz.l2 k2 l0 l1 mF false false 0)=some (r1,r2):=by rw [if_pos rfl] at H;exact H
      clear H
      have H:=H1
      clear H1
      have H':=k0 H
      clear H
      go_wp2
      go_loopg [11,12] k2 (fun kq v11 v12 w'=>∃ (aln:List Bool) (qc:Bool) (cA:Int),v11=.bool qc∧v12=.int .i64 cA∧ak (bz.l2 kq l0 l1 aln false qc cA=some (r1,r2))∧ak (kq≤k2)∧ak (Kd.R Kd.bool 133 w' w.heap.size (fun _=>True) lT aln)∧ak (Below w.heap.size w w'))
      case atStart=>exact ⟨(mF),(false),(0),rs,rs,H',⟨Nat.le_refl _⟩,⟨aR (bG.out)⟩,⟨bl⟩⟩
      case round =>
       clear H'
       (try clear c4);(try clear eV);(try clear ow);(try clear c7);(try clear iz);(try clear c8);(try clear jw);(try clear c9);(try clear mg);(try clear al7);(try clear al9);(try clear c13);(try clear Bn);(try clear al7);(try clear al9)
       obtain ⟨aln,qc,cA,rfl,rfl,HA,dn,bG,HB⟩:=hrel
       have J0:=AI HV.out bG.out
       cases gk with
       | zero=>exact absurd HA.out (by simp [bz.l2])
       | succ k3 =>
        have H:=HA.out
        clear HA
        simp only [bz.l2] at H
        by_cases c14:cA < (l0.length:Int)
        case neg =>
         rw [if_neg c14] at H
         have kC:decide (cA < (l0.length:Int))=false:=decide_eq_false c14
         clear c14
         have H':=k0 H
         clear H
         go_wp2
         go_roundg k3
         case measure=>have:=aM.out;have:=bp.out;have:=dn.out;omega
         case rel=>exact ⟨(aln),(qc),rs,H',⟨by have:=aM.out;have:=bp.out;have:=dn.out;omega⟩,⟨aR (bG.out)⟩,⟨bl⟩⟩
        rw [if_pos c14] at H
        have kC:=decide_eq_true c14
        clear c14
        have H':=k0 H
        clear H
        go_wp2
        go_loopg [13,14] k3 (fun kq Ej G3 w'=>∃ (qW:Int) (iA:Int),Ej=.int .i64 qW∧G3=.int .i64 iA∧ak (bz.l3 kq l0 l1 aln false qc cA qW iA=some (r1,r2))∧ak (kq≤k3)∧ak (Kd.R Kd.bool 133 w' w.heap.size (fun _=>True) lT aln)∧ak (Below w.heap.size w w'))
        case atStart=>exact ⟨(0),(0),rs,rs,H',⟨Nat.le_refl _⟩,⟨aR (bG.out)⟩,⟨bl⟩⟩
        case round =>
         clear H'
         (try clear c4);(try clear eV);(try clear ow);(try clear c7);(try clear iz);(try clear c8);(try clear jw);(try clear c9);(try clear mg);(try clear al7);(try clear al9);(try clear c13);(try clear c14);(try clear kC);(try clear Bn);(try clear al7);(try clear al9)
         obtain ⟨qW,iA,rfl,rfl,HA,gI,bG,HB⟩:=hrel
         cases gk with
         | zero=>exact absurd HA.out (by simp [bz.l3])
         | succ k4 =>
          have H:=HA.out
          clear HA
          simp only [bz.l3] at H
          by_cases c15:iA < (l0.length:Int)
          case neg =>
           rw [if_neg c15] at H
           have kV:decide (iA < (l0.length:Int))=false:=decide_eq_false c15
           clear c15
           replace H:=iS H;obtain ⟨c26,H⟩:=H
           have xx:=decide_eq_true c26
           clear c26
           replace H:=iS H;obtain ⟨c27,H⟩:=H
           have amp:=decide_eq_true c27
           have agz:(cA < (8:Int))=True:=eq_true c27
           have agy:decide (cA < (aln.length:Int))=true:=decide_eq_true (by rw [J0];exact c27)
           clear c27
           obtain ⟨Oq,J_⟩:∃ b_:Bool,b_=(nS false aln cA):=⟨_,rfl⟩
           replace H:(if Oq=true then (if cA < (l1.length:Int) then (if qW > (rd l1 cA) then (bz.l2 k4 l0 l1 (aln.set (cA:Int).toNat false) false true (wrap64 (cA+1))) else (bz.l2 k4 l0 l1 aln false qc (wrap64 (cA+1)))) else (none)) else (bz.l2 k4 l0 l1 aln false qc (wrap64 (cA+1))))=some (r1,r2):=by rw [← J_] at H;exact H
           have IJ:=k0 J_
           clear J_
           by_cases c29:Oq=true
           case neg =>
            replace c29:=Bool.eq_false_iff.mpr c29
            subst c29
            have H1:(bz.l2 k4 l0 l1 aln false qc (wrap64 (cA+1)))=some (r1,r2):=by rw [if_neg (show ¬ (false=true) by decide)] at H;exact H
            clear H
            have H:=H1
            clear H1
            have H':=k0 H
            clear H
            have ef:0≤(cA:Int):=oD
            have dS:cA < (aln.length:Int):=oD
            have fu:=qy HV.out bG.out cA ef dS
            (try rw [← IJ.out] at fu)
            replace ef:=eq_true ef
            replace dS:=eq_true dS
            go_wp2
            go_roundg k4
            case measure=>have:=aM.out;have:=bp.out;have:=dn.out;have:=gI.out;omega
            case rel=>exact ⟨(aln),(qc),(wrap64 (cA+1)),rs,rs,H',⟨by have:=aM.out;have:=bp.out;have:=dn.out;have:=gI.out;omega⟩,⟨aR (bG.out)⟩,⟨bl⟩⟩
           subst c29
           have H1:(if cA < (l1.length:Int) then (if qW > (rd l1 cA) then (bz.l2 k4 l0 l1 (aln.set (cA:Int).toNat false) false true (wrap64 (cA+1))) else (bz.l2 k4 l0 l1 aln false qc (wrap64 (cA+1)))) else (none))=some (r1,r2):=by rw [if_pos rfl] at H;exact H
           clear H
           have H:=H1
           clear H1
           replace H:=iS H;obtain ⟨c30,H⟩:=H
           have Jf:=decide_eq_true c30
           clear c30
           by_cases c31:qW > (rd l1 cA)
           case neg =>
            rw [if_neg c31] at H
            have ou:decide ((rd l1 cA) < qW)=false:=decide_eq_false c31
            clear c31
            have H':=k0 H
            clear H
            have ef:0≤(cA:Int):=oD
            have dS:cA < (aln.length:Int):=oD
            have fu:=qy HV.out bG.out cA ef dS
            (try rw [← IJ.out] at fu)
            replace ef:=eq_true ef
            replace dS:=eq_true dS
            have eD:0≤(cA:Int):=oD
            have er:cA < (l1.length:Int):=oD
            obtain ⟨lK,e109,alI⟩:=Kd.bS eP.out cA eD er
            cases e109
            replace alI:=hbc HB alI
            replace eD:=eq_true eD
            replace er:=eq_true er
            go_wp2
            go_roundg k4
            case measure=>have:=aM.out;have:=bp.out;have:=dn.out;have:=gI.out;omega
            case rel=>exact ⟨(aln),(qc),(wrap64 (cA+1)),rs,rs,H',⟨by have:=aM.out;have:=bp.out;have:=dn.out;have:=gI.out;omega⟩,⟨aR (bG.out)⟩,⟨bl⟩⟩
           rw [if_pos c31] at H
           have ou:=decide_eq_true c31
           clear c31
           obtain ⟨uC,oG⟩:∃ y_:List Bool,y_=(aln.set (cA:Int).toNat false):=⟨_,rfl⟩
           replace H:(bz.l2 k4 l0 l1 uC false true (wrap64 (cA+1)))=some (r1,r2):=by first|(rw [oG];with_reducible exact H)|(have ax:=(Option.bind_some _ _).symm.trans H;rw [oG];with_reducible exact ax)|(have ax:=(Option.bind_some _ _).symm.trans H;with_reducible exact ax)|with_reducible exact H|(rw [oG];exact H)|exact H
           have B4:=k0 oG
           clear oG
           have H':=k0 H
           clear H
           have ef:0≤(cA:Int):=oD
           have dS:cA < (aln.length:Int):=oD
           have fu:=qy HV.out bG.out cA ef dS
           (try rw [← IJ.out] at fu)
           replace ef:=eq_true ef
           replace dS:=eq_true dS
           have eD:0≤(cA:Int):=oD
           have er:cA < (l1.length:Int):=oD
           obtain ⟨lK,e109,alI⟩:=Kd.bS eP.out cA eD er
           cases e109
           replace alI:=hbc HB alI
           replace eD:=eq_true eD
           replace er:=eq_true er
           have D3:0≤(cA:Int):=oD
           have D6:(cA:Int) < ((aln.length:Int):Int):=oD
           obtain ⟨FD,Ym,Jy,PA,ZY,ahd,Np⟩:=Kd.kT bG.out (by rw [J0];decide)
           have zq:FD=gL:=by have h_:=Jy.symm.trans HV.out;injection h_ with dm _ _;injection dm with dm;injection dm
           subst zq
           (first|cases Jy|(injection Jy with aW aly c_;(first|subst aW|(injection aW with aW;subst aW));subst c_;clear aly))
           have UQ:=k0 PA
           have afN:=k0 Np
           clear PA ZY Np
           (first|simp only [add_plain] at fu|skip)
           obtain ⟨ab_,ah2⟩:=Kd.js false bG.out (cA:Int) D3 D6
           replace D3:=eq_true D3
           replace D6:=eq_true D6
           have qo:=Kd.kr bG.out (cA:Int) false
           go_wp2_with (first|((with_reducible refine kW (t:=4) (p:=71) rfl ?_);refine alT (t:=4) (p:=71) (v:=?afe) (w1:=(wr.setCell ⟨FD,(cA:Int).toNat,none⟩ (.bool false))) ?hg ?ho ?hn ?hr ?_;(case ho=>rfl);(case hg=>rfl);(case hn=>rfl);(case hr=>first|(go_simp;done)|(go_simp;rfl));intro vq hw;have hg:wr.grownBy vq (some FD):=(by rw [hw];exact qo.2);have dO:Kd.R Kd.bool 133 vq w.heap.size (fun _=>True) (.slice (some ⟨FD,0,none⟩) aln.length Ym) uC:=(by rw [hw,B4.out];exact qo.1);clear qo;replace bG:=k0 (dO);replace HB:=k0 ((by rw [hw];exact dI (HB.out) UQ.out:Below w.heap.size w vq));clear hg hw dO))
           go_roundg k4
           case measure=>have:=aM.out;have:=bp.out;have:=dn.out;have:=gI.out;omega
           case rel=>exact ⟨(uC),(true),(wrap64 (cA+1)),rs,rs,H',⟨by have:=aM.out;have:=bp.out;have:=dn.out;have:=gI.out;omega⟩,⟨aR (bG.out)⟩,⟨bl⟩⟩
          rw [if_pos c15] at H
          have kV:=decide_eq_true c15
          clear c15
          by_cases c16:cA=iA
          case neg =>
           rw [if_neg c16] at H
           have rm:(cA == iA)=false:=beq_eq_false_iff_ne.mpr c16
           have AP:(cA != iA)=true:=bne_iff_ne.mpr c16
           replace H:=iS H;obtain ⟨c17,H⟩:=H
           have pF:=decide_eq_true c17
           clear c17
           replace H:=iS H;obtain ⟨c18,H⟩:=H
           have uP:=decide_eq_true c18
           have agx:(iA < (8:Int))=True:=eq_true c18
           have agw:decide (iA < (aln.length:Int))=true:=decide_eq_true (by rw [J0];exact c18)
           clear c18
           obtain ⟨Oo,J'⟩:∃ b_:Bool,b_=(nS false aln iA):=⟨_,rfl⟩
           replace H:(if Oo=true then (bz.l3 k4 l0 l1 aln false qc cA qW (wrap64 (iA+1))) else (if 0≤cA then (if cA < (l0.length:Int) then (if iA < ((ag l0 cA).length:Int) then (bz.l3 k4 l0 l1 aln false qc cA (wrap64 (qW - (rd (ag l0 cA) iA))) (wrap64 (iA+1))) else (none)) else (none)) else (none)))=some (r1,r2):=by rw [← J'] at H;exact H
           have NY:=k0 J'
           clear J'
           by_cases c20:Oo=true
           case neg =>
            replace c20:=Bool.eq_false_iff.mpr c20
            subst c20
            have H1:(if 0≤cA then (if cA < (l0.length:Int) then (if iA < ((ag l0 cA).length:Int) then (bz.l3 k4 l0 l1 aln false qc cA (wrap64 (qW - (rd (ag l0 cA) iA))) (wrap64 (iA+1))) else (none)) else (none)) else (none))=some (r1,r2):=by rw [if_neg (show ¬ (false=true) by decide)] at H;exact H
            clear H
            have H:=H1
            clear H1
            replace H:=iS H;obtain ⟨c22,H⟩:=H
            have rq:=decide_eq_true c22
            clear c22
            replace H:=iS H;obtain ⟨c23,H⟩:=H
            have r9:=decide_eq_true c23
            clear c23
            replace H:=iS H;obtain ⟨c24,H⟩:=H
            have uR:=decide_eq_true c24
            clear c24
            have H':=k0 H
            clear H
            have dg:0≤(iA:Int):=oD
            have cX:iA < (aln.length:Int):=oD
            have dX:=qy HV.out bG.out iA dg cX
            (try rw [← NY.out] at dX)
            replace dg:=eq_true dg
            replace cX:=eq_true cX
            have dK:0≤(cA:Int):=oD
            have dH:cA < (l0.length:Int):=oD
            obtain ⟨alH,Hf,Cj,e106,dD,tP,tJ⟩:=cZ eA.out cA dK dH
            cases e106
            replace dD:=hbc HB dD
            have pg:=k0 tJ
            have anK:=k0 tP
            clear tJ tP
            replace dK:=eq_true dK
            replace dH:=eq_true dH
            have gv:0≤(iA:Int):=oD
            have gx:iA < ((ag l0 cA).length:Int):=oD
            obtain ⟨pV,e107,fX⟩:=Kd.bS pg.out iA gv gx
            cases e107
            replace fX:=hbc HB fX
            replace gv:=eq_true gv
            replace gx:=eq_true gx
            go_wp2
            go_roundg k4
            case measure=>have:=aM.out;have:=bp.out;have:=dn.out;have:=gI.out;omega
            case rel=>exact ⟨(wrap64 (qW - (rd (ag l0 cA) iA))),(wrap64 (iA+1)),rs,rs,H',⟨by have:=aM.out;have:=bp.out;have:=dn.out;have:=gI.out;omega⟩,⟨aR (bG.out)⟩,⟨bl⟩⟩
           subst c20
           have H1:(bz.l3 k4 l0 l1 aln false qc cA qW (wrap64 (iA+1)))=some (r1,r2):=by rw [if_pos rfl] at H;exact H
           clear H
           have H:=H1
           clear H1
           have H':=k0 H
           clear H
           have dg:0≤(iA:Int):=oD
           have cX:iA < (aln.length:Int):=oD
           have dX:=qy HV.out bG.out iA dg cX
           (try rw [← NY.out] at dX)
           replace dg:=eq_true dg
           replace cX:=eq_true cX
           go_wp2
           go_roundg k4
           case measure=>have:=aM.out;have:=bp.out;have:=dn.out;have:=gI.out;omega
           case rel=>exact ⟨(qW),(wrap64 (iA+1)),rs,rs,H',⟨by have:=aM.out;have:=bp.out;have:=dn.out;have:=gI.out;omega⟩,⟨aR (bG.out)⟩,⟨bl⟩⟩
          rw [if_pos c16] at H
          have rm:(cA == iA)=true:=beq_iff_eq.mpr c16
          have AP:(cA != iA)=false:=bne_eq_false_iff_eq.mpr c16
          clear c16
          have H':=k0 H
          clear H
          go_wp2
          go_roundg k4
          case measure=>have:=aM.out;have:=bp.out;have:=dn.out;have:=gI.out;omega
          case rel=>exact ⟨(qW),(wrap64 (iA+1)),rs,rs,H',⟨by have:=aM.out;have:=bp.out;have:=dn.out;have:=gI.out;omega⟩,⟨aR (bG.out)⟩,⟨bl⟩⟩
   rw [if_pos c7] at H
   have iz:=decide_eq_true c7
   clear c7
   replace H:=iS H;obtain ⟨c8,H⟩:=H
   have jw:=decide_eq_true c8
   clear c8
   replace H:=iS H;obtain ⟨c9,H⟩:=H
   have mg:=decide_eq_true c9
   have c9P:(eF < (8:Int))=True:=eq_true c9
   have c9L:decide (eF < (bF.length:Int))=true:=decide_eq_true (by rw [P0];exact c9)
   clear c9
   obtain ⟨al4,jB⟩:∃ y_:List Bool,y_=(bF.set (eF:Int).toNat (eF != a2)):=⟨_,rfl⟩
   replace H:(bz.l0 k1 l0 l1 a2 al4 false (wrap64 (eF+1)))=some (r1,r2):=by first|(rw [jB];with_reducible exact H)|(have ax:=(Option.bind_some _ _).symm.trans H;rw [jB];with_reducible exact ax)|(have ax:=(Option.bind_some _ _).symm.trans H;with_reducible exact ax)|with_reducible exact H|(rw [jB];exact H)|exact H
   have uK:=k0 jB
   clear jB
   have H':=k0 H
   clear H
   have al7:0≤(eF:Int):=oD
   have al9:(eF:Int) < ((bF.length:Int):Int):=oD
   obtain ⟨tq,pY,qB,Cz,JQ,X5,BU⟩:=Kd.kT bG.out (by rw [P0];decide)
   have zq:tq=gL:=by have h_:=qB.symm.trans HV.out;injection h_ with dm _ _;injection dm with dm;injection dm
   subst zq
   (first|cases qB|(injection qB with aW aly c_;(first|subst aW|(injection aW with aW;subst aW));subst c_;clear aly))
   have Hz:=k0 Cz
   have UX:=k0 BU
   clear Cz JQ BU
   obtain ⟨Bn,QK⟩:=Kd.js false bG.out (eF:Int) al7 al9
   replace al7:=eq_true al7
   replace al9:=eq_true al9
   have sU:=Kd.kr bG.out (eF:Int) (eF != a2)
   go_wp2_with (first|((with_reducible refine kW (t:=4) (p:=27) rfl ?_);refine alT (t:=4) (p:=27) (v:=?afc) (w1:=(wr.setCell ⟨tq,(eF:Int).toNat,none⟩ (.bool (eF != a2)))) ?hg ?ho ?hn ?hr ?_;(case ho=>rfl);(case hg=>rfl);(case hn=>rfl);(case hr=>first|(go_simp;done)|(go_simp;rfl));intro gM hw;have hg:wr.grownBy gM (some tq):=(by rw [hw];exact sU.2);have dO:Kd.R Kd.bool 133 gM w.heap.size (fun _=>True) (.slice (some ⟨tq,0,none⟩) bF.length pY) al4:=(by rw [hw,uK.out];exact sU.1);clear sU;replace bG:=k0 (dO);replace HB:=k0 ((by rw [hw];exact dI (HB.out) Hz.out:Below w.heap.size w gM));clear hg hw dO))
   go_roundg k1
   case measure=>have:=aM.out;omega
   case rel=>exact ⟨(al4),(wrap64 (eF+1)),rs,H',⟨by have:=aM.out;omega⟩,⟨aR (bG.out)⟩,⟨bl⟩⟩
def bz.f (k:Nat) (l0:List (List Int)) (l1:List Int) (a2:Int):Option Bool:=(bz.fA k l0 l1 a2).map Prod.snd
theorem bz.mono:∀ a0 a1 a2 k,aj (bz.f k a0 a1 a2) (bz.f (k+1) a0 a1 a2):=by
 intro a0 a1 a2 k r h
 unfold bz.f at h ⊢
 obtain ⟨x,hx,rfl⟩:=Option.map_eq_some_iff.1 h
 rw [bz.Bs _ _ _ _ _ hx];rfl
set_option maxHeartbeats 8000000 in
set_option maxRecDepth 100000 in
theorem bz.calls (k : Nat) (A0 : Option Addr) (c0 : Nat) (l0 : List (List Int)) (A1 : Option Addr) (c1 : Nat) (l1 : List Int) (a2 : Int) (r : Bool) (w : World) (cI : Kd.C (Kd.slice 2 (Kd.int .i64)) w A0 l0.length l0) (hc0 : l0.length ≤ c0) (cE : Kd.C (Kd.int .i64) w A1 l1.length l1) (dW : l1.length ≤ c1) (h : bz.f k l0 l1 a2 = some r) :
  Calls Try.prog 176 #[.slice A0 l0.length c0,.slice A1 l1.length c1,.int .i64 a2] w fun e w'=>(∃ b0 b1 b2 b3 b4 b5 b6 b7:Bool,e=.returned (.tuple #[.agg #[.bool b0,.bool b1,.bool b2,.bool b3,.bool b4,.bool b5,.bool b6,.bool b7],.bool r]))∧Below w.heap.size w w':=by
 unfold bz.f at h
 obtain ⟨⟨xs,b⟩,hx,rfl⟩:=Option.map_eq_some_iff.1 h
 exact (bz.yT k A0 c0 l0 A1 c1 l1 a2 xs b w cI hc0 cE dW hx).mono fun e w' ⟨⟨he,h8⟩,hb⟩=>by
  obtain ⟨b0,b1,b2,b3,b4,b5,b6,b7,e8⟩:=O0 xs h8
  exact ⟨⟨b0,b1,b2,b3,b4,b5,b6,b7,by rw [he,e8];rfl⟩,hb⟩
end Go.Proofs.Ytoebojnhchocaaa.B
/- Set with little white space, by a program. -/
