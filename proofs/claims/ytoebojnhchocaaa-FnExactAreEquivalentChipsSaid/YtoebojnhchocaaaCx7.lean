/- The functions that one law reaches, each as a Lean function, and that Go's call comes to what it says. Condition of each: that the Lean function answers (is not none). -/
import Derived.Test.YtoebojnhchocaaaCx0
namespace Go.Proofs.Ytoebojnhchocaaa.C
open Go.RowKit Go.Proofs.bI.en Go.Proofs.bI.je Go.Proofs.bI.jC
attribute [local go_sem] max2_int min2_int max_two min_two max_three min_three max_four min_four   -- for this text's walks alone
set_option linter.unusedVariables false
set_option linter.unusedSimpArgs false
/-! ### F176: function 176 -/
theorem NX (l:List Bool) (h:l.length=8):∃ b0 b1 b2 b3 b4 b5 b6 b7,l=[b0,b1,b2,b3,b4,b5,b6,b7]:=by
 match l,h with
 | [b0,b1,b2,b3,b4,b5,b6,b7],_=>exact ⟨b0,b1,b2,b3,b4,b5,b6,b7,rfl⟩
theorem VR {w:World} {t:Nat} (xs:List Bool) (hm:xs.length≤9223372036854775807:=by decide):Kd.R Kd.bool t (w.alloc (.cells (xs.map Value.bool).toArray t (0,0))) w.heap.size (fun _=>True) (.slice (some ⟨w.heap.size,0,none⟩) xs.length xs.length) xs:=by
 refine Kd.zR ?_ (fun _ _=>trivial)
 have h2:=World.ownsRow_lit (base:=w.heap.size) (e:=t) (size:=1) w (xs.map Value.bool).toArray xs.length (Nat.le_refl _) (by simpa [maxLen] using hm) (by simp)
 simpa [fl] using h2
theorem zX {w:World} {t g base:Nat} {ok:Nat→Prop} {v:Value} {xs:List Bool} (hv:v=.slice (some ⟨g,0,none⟩) 8 8) (h:Kd.R Kd.bool t w base ok v xs):xs.length=8:=by
 subst hv
 have:=(Kd.bu h).1
 omega
theorem ak4 {w:World} {t g base:Nat} {ok:Nat→Prop} {v:Value} {xs:List Bool} (hv:v=.slice (some ⟨g,0,none⟩) 8 8) (h:Kd.R Kd.bool t w base ok v xs) (i:Int) (h0:0≤i) (h1:i < (xs.length:Int)):w.cell? ⟨g,i.toNat,none⟩=some (.bool (nP false xs i)):=by
 have hl:=zX hv h
 subst hv
 exact (Kd.jD false h i h0 (by omega)).1
theorem Ng {w:World} {t g base:Nat} {ok:Nat→Prop} {v:Value} {b0 b1 b2 b3 b4 b5 b6 b7:Bool} (hv:v=.slice (some ⟨g,0,none⟩) 8 8) (h:Kd.R Kd.bool t w base ok v [b0,b1,b2,b3,b4,b5,b6,b7]):w.cell? ⟨g,0,none⟩=some (.bool b0)∧w.cell? ⟨g,1,none⟩=some (.bool b1)∧w.cell? ⟨g,2,none⟩=some (.bool b2)∧w.cell? ⟨g,3,none⟩=some (.bool b3)∧w.cell? ⟨g,4,none⟩=some (.bool b4)∧w.cell? ⟨g,5,none⟩=some (.bool b5)∧w.cell? ⟨g,6,none⟩=some (.bool b6)∧w.cell? ⟨g,7,none⟩=some (.bool b7) :=
 ⟨ak4 hv h 0 (by decide) (by simp),ak4 hv h 1 (by decide) (by simp),ak4 hv h 2 (by decide) (by simp),ak4 hv h 3 (by decide) (by simp),ak4 hv h 4 (by decide) (by simp),ak4 hv h 5 (by decide) (by simp),ak4 hv h 6 (by decide) (by simp),ak4 hv h 7 (by decide) (by simp)⟩
mutual
def bB.l0 : Nat → List (List Int) → List Int → Int → List Bool → Bool → Int → Option (List Bool × Bool)
 | 0,_,_,_,_,_,_=>none
 | k+1,x0,x1,x2,x8,x9,fc=>if fc < (x0.length:Int) then (if 0≤fc then (if fc < (8:Int) then (bB.l0 k x0 x1 x2 (x8.set (fc:Int).toNat (fc != x2)) x9 (wrap64 (fc+1))) else (none)) else (none)) else (bB.l1 k x0 x1 x8 x9 true)
def bB.l1 : Nat → List (List Int) → List Int → List Bool → Bool → Bool → Option (List Bool × Bool)
 | 0,_,_,_,_,_=>none
 | k+1,x0,x1,x8,x9,fe=>if fe=true then (bB.l2 k x0 x1 x8 x9 false 0) else (bB.l4 k x0 x8 x9 0)
def bB.l2 : Nat → List (List Int) → List Int → List Bool → Bool → Bool → Int → Option (List Bool × Bool)
 | 0,_,_,_,_,_,_=>none
 | k+1,x0,x1,x8,x9,fe,fK=>if fK < (x0.length:Int) then (bB.l3 k x0 x1 x8 x9 fe fK 0 0) else (bB.l1 k x0 x1 x8 x9 fe)
def bB.l3 : Nat → List (List Int) → List Int → List Bool → Bool → Bool → Int → Int → Int → Option (List Bool × Bool)
 | 0,_,_,_,_,_,_,_,_=>none
 | k+1,x0,x1,x8,x9,fe,fK,gH,ak1=>if ak1 < (x0.length:Int) then (if fK=ak1 then (bB.l3 k x0 x1 x8 x9 fe fK gH (wrap64 (ak1+1))) else (if 0≤ak1 then (if ak1 < (8:Int) then (if nP false x8 ak1=true then (bB.l3 k x0 x1 x8 x9 fe fK gH (wrap64 (ak1+1))) else (if 0≤fK then (if fK < (x0.length:Int) then (if ak1 < ((ah x0 fK).length:Int) then (bB.l3 k x0 x1 x8 x9 fe fK (wrap64 (gH - (rd (ah x0 fK) ak1))) (wrap64 (ak1+1))) else (none)) else (none)) else (none))) else (none)) else (none))) else (if 0≤fK then (if fK < (8:Int) then (if nP false x8 fK=true then (if fK < (x1.length:Int) then (if gH > (rd x1 fK) then (bB.l2 k x0 x1 (x8.set (fK:Int).toNat false) x9 true (wrap64 (fK+1))) else (bB.l2 k x0 x1 x8 x9 fe (wrap64 (fK+1)))) else (none)) else (bB.l2 k x0 x1 x8 x9 fe (wrap64 (fK+1)))) else (none)) else (none))
def bB.l4 : Nat → List (List Int) → List Bool → Bool → Int → Option (List Bool × Bool)
 | 0,_,_,_,_=>none
 | k+1,x0,x8,x9,gx=>if gx < (x0.length:Int) then (if x9=true then (bB.l4 k x0 x8 true (wrap64 (gx+1))) else (if 0≤gx then (if gx < (8:Int) then (bB.l4 k x0 x8 (nP false x8 gx) (wrap64 (gx+1))) else (none)) else (none))) else (some (x8,x9))
end
def bB.fA (k:Nat) (l0:List (List Int)) (l1:List Int) (a2:Int):Option (List Bool × Bool):=if 8≤281474976710656 then (bB.l0 k l0 l1 a2 (List.replicate 8 false) false 0) else (none)
theorem bB.b8 : ∀ k, (∀ y0 y1 y2 y3 y4 y5, aj (bB.l0 k y0 y1 y2 y3 y4 y5) (bB.l0 (k + 1) y0 y1 y2 y3 y4 y5)) ∧ (∀ y0 y1 y2 y3 y4, aj (bB.l1 k y0 y1 y2 y3 y4) (bB.l1 (k + 1) y0 y1 y2 y3 y4)) ∧ (∀ y0 y1 y2 y3 y4 y5, aj (bB.l2 k y0 y1 y2 y3 y4 y5) (bB.l2 (k + 1) y0 y1 y2 y3 y4 y5)) ∧ (∀ y0 y1 y2 y3 y4 y5 y6 y7, aj (bB.l3 k y0 y1 y2 y3 y4 y5 y6 y7) (bB.l3 (k + 1) y0 y1 y2 y3 y4 y5 y6 y7)) ∧ (∀ y0 y1 y2 y3, aj (bB.l4 k y0 y1 y2 y3) (bB.l4 (k + 1) y0 y1 y2 y3))
 | 0=>⟨fun _ _ _ _ _ _ r h=>by simp [bB.l0] at h,fun _ _ _ _ _ r h=>by simp [bB.l1] at h,fun _ _ _ _ _ _ r h=>by simp [bB.l2] at h,fun _ _ _ _ _ _ _ _ r h=>by simp [bB.l3] at h,fun _ _ _ _ r h=>by simp [bB.l4] at h⟩
 | k+1=>by
  obtain ⟨akk,ih1,ih2,ih3,ih4⟩:=bB.b8 k
  refine ⟨?_, ?_, ?_, ?_, ?_⟩ <;> intros <;> (first | unfold bB.l0 | unfold bB.l1 | unfold bB.l2 | unfold bB.l3 | unfold bB.l4) <;> repeat' first
   | (with_reducible first|exact akk _ _ _ _ _ _|exact ih1 _ _ _ _ _|exact ih2 _ _ _ _ _ _|exact ih3 _ _ _ _ _ _ _ _|exact ih4 _ _ _ _|exact aj.refl _|exact aj.none _|refine aj.ite ?_ ?_|refine aj.bind ?_ (fun _=>?_))
   | exact akk _ _ _ _ _ _|exact ih1 _ _ _ _ _|exact ih2 _ _ _ _ _ _|exact ih3 _ _ _ _ _ _ _ _|exact ih4 _ _ _ _|exact aj.none _|refine aj.ite ?_ ?_|refine aj.bind ?_ (fun _=>?_)
theorem bB.AL:∀ a0 a1 a2 k,aj (bB.fA k a0 a1 a2) (bB.fA (k+1) a0 a1 a2):=by
 intro a0 a1 a2 k
 obtain ⟨akk,ih1,ih2,ih3,ih4⟩:=bB.b8 k
 unfold bB.fA
 repeat' first
  | (with_reducible first|exact akk _ _ _ _ _ _|exact ih1 _ _ _ _ _|exact ih2 _ _ _ _ _ _|exact ih3 _ _ _ _ _ _ _ _|exact ih4 _ _ _ _|exact aj.refl _|exact aj.none _|refine aj.ite ?_ ?_|refine aj.bind ?_ (fun _=>?_))
  | exact akk _ _ _ _ _ _|exact ih1 _ _ _ _ _|exact ih2 _ _ _ _ _ _|exact ih3 _ _ _ _ _ _ _ _|exact ih4 _ _ _ _|exact aj.none _|refine aj.ite ?_ ?_|refine aj.bind ?_ (fun _=>?_)
set_option maxHeartbeats 8000000 in
set_option maxRecDepth 100000 in
theorem bB.alQ (k : Nat) (A0 : Option Addr) (c0 : Nat) (l0 : List (List Int)) (A1 : Option Addr) (c1 : Nat) (l1 : List Int) (a2 : Int) (r1 : List Bool) (r2 : Bool) (W0 : World) (dB : Kd.C (Kd.slice 2 (Kd.int .i64)) W0 A0 l0.length l0) (hc0 : l0.length ≤ c0) (cQ : Kd.C (Kd.int .i64) W0 A1 l1.length l1) (ef : l1.length ≤ c1) (h : bB.fA k l0 l1 a2 = some (r1, r2)) :
  Calls Try.prog 176 #[.slice A0 l0.length c0,.slice A1 l1.length c1,.int .i64 a2] W0 fun e w'=>(e=.returned (.tuple #[.agg (r1.map Value.bool).toArray,.bool r2])∧r1.length=8)∧Below W0.heap.size W0 w':=by
 have fj:=k0 dB
 have ki:=k0 hc0
 clear dB hc0
 have ek:=k0 cQ
 have jZ:=k0 ef
 clear cQ ef
 have H:(if 8≤281474976710656 then (bB.l0 k l0 l1 a2 (List.replicate 8 false) false 0) else (none))=some (r1,r2):=h
 clear h
 replace H:=iS H;obtain ⟨c4,H⟩:=H
 have eA:=eq_true c4
 have mB:=decide_eq_true c4
 clear c4
 obtain ⟨jz,akD⟩:∃ y_:List Bool,y_=(List.replicate 8 false):=⟨_,rfl⟩
 replace H:(bB.l0 k l0 l1 a2 jz false 0)=some (r1,r2):=by first|(rw [akD];with_reducible exact H)|(have ay:=(Option.bind_some _ _).symm.trans H;rw [akD];with_reducible exact ay)|(have ay:=(Option.bind_some _ _).symm.trans H;with_reducible exact ay)|with_reducible exact H|(rw [akD];exact H)|exact H
 have mg:=k0 akD
 clear akD
 have H':=k0 H
 clear H
 go_enter Try.func176,Try.ntmps176
 go_wp2
 have HW:=k0 (dA (Below.refl W0.heap.size W0) (.cells #[Value.bool false,.bool false,.bool false,.bool false,.bool false,.bool false,.bool false,.bool false] 133 (0,0)))
 have zC:=k0 (heap_alloc_new W0 (.cells #[Value.bool false,.bool false,.bool false,.bool false,.bool false,.bool false,.bool false,.bool false] 133 (0,0)))
 have GR:=k0 (Nat.le_refl W0.heap.size)
 have Fk:(W0.alloc (.cells #[Value.bool false,.bool false,.bool false,.bool false,.bool false,.bool false,.bool false,.bool false] 133 (0,0))).heap.size=W0.heap.size+1:=by unfold World.alloc;exact Array.size_push _
 generalize aa5:W0.heap.size=gR at zC Fk ⊢
 replace GR:au (W0.heap.size≤gR):=⟨by omega⟩
 clear aa5
 replace fj:=k0 (Kd.bA fj.out HW.out);replace ek:=k0 (Kd.bA ek.out HW.out)
 generalize W0.alloc (.cells #[Value.bool false,.bool false,.bool false,.bool false,.bool false,.bool false,.bool false,.bool false] 133 (0,0))=w at fj ek HW zC Fk ⊢
 have HB:=k0 (dA (Below.refl w.heap.size w) (.cells #[Value.bool false,.bool false,.bool false,.bool false,.bool false,.bool false,.bool false,.bool false] 133 (0,0)))
 have kN:=k0 (VR (w:=w) (t:=133) (List.replicate 8 false))
 rw [← mg.out] at kN
 obtain ⟨gL,yG⟩:∃ g:Nat,g=gR+1:=⟨_,rfl⟩
 rw [← yG]
 obtain ⟨l6,yX⟩:∃ v_:Value,v_=.slice (some ⟨gL,0,none⟩) 8 8:=⟨_,rfl⟩
 have HV:=k0 yX
 have akf:au (Kd.R Kd.bool 133 (w.alloc (.cells #[Value.bool false,.bool false,.bool false,.bool false,.bool false,.bool false,.bool false,.bool false] 133 (0,0))) w.heap.size (fun _=>True) l6 jz):=⟨by rw [yX,yG,← Fk];have h_:=kN.out;rw [mg.out] at h_ ⊢;exact h_⟩
 clear kN yX yG Fk
 have kN:=akf
 clear akf
 generalize w.alloc (.cells #[Value.bool false,.bool false,.bool false,.bool false,.bool false,.bool false,.bool false,.bool false] 133 (0,0))=ws at kN HB ⊢
 go_loopg [10] k (fun kq v10 w'=>∃ (bE:List Bool) (eI:Int),v10=.int .i64 eI∧au (bB.l0 kq l0 l1 a2 bE false eI=some (r1,r2))∧au (kq≤k)∧au (Kd.R Kd.bool 133 w' w.heap.size (fun _=>True) l6 bE)∧au (Below w.heap.size w w'))
 case atStart=>exact ⟨(jz),(0),rs,H',⟨Nat.le_refl _⟩,⟨aR (kN.out)⟩,⟨bl⟩⟩
 case round =>
  clear H'
  (try clear c4);(try clear eA);(try clear mB)
  obtain ⟨bE,eI,rfl,HA,akl,bF,HB⟩:=hrel
  have OQ:=zX HV.out bF.out
  cases gk with
  | zero=>exact absurd HA.out (by simp [bB.l0])
  | succ k1 =>
   have H:=HA.out
   clear HA
   simp only [bB.l0] at H
   by_cases c7:eI < (l0.length:Int)
   case neg =>
    rw [if_neg c7] at H
    have gK:decide (eI < (l0.length:Int))=false:=decide_eq_false c7
    clear c7
    have H':=k0 H
    clear H
    go_wp2
    go_loopg [11] k1 (fun kq v11 w'=>∃ (mN:List Bool) (fG:Bool),v11=.bool fG∧au (bB.l1 kq l0 l1 mN false fG=some (r1,r2))∧au (kq≤k1)∧au (Kd.R Kd.bool 133 w' w.heap.size (fun _=>True) l6 mN)∧au (Below w.heap.size w w'))
    case atStart=>exact ⟨(bE),(true),rs,H',⟨Nat.le_refl _⟩,⟨aR (bF.out)⟩,⟨bl⟩⟩
    case round =>
     clear H'
     (try clear c4);(try clear eA);(try clear mB);(try clear c7);(try clear gK);(try clear c8);(try clear iX);(try clear c9);(try clear k8);(try clear pI);(try clear pL);(try clear AG);(try clear pI);(try clear pL)
     obtain ⟨mN,fG,rfl,HA,bz,bF,HB⟩:=hrel
     have Zc:=zX HV.out bF.out
     cases gk with
     | zero=>exact absurd HA.out (by simp [bB.l1])
     | succ k2 =>
      have H:=HA.out
      clear HA
      simp only [bB.l1] at H
      by_cases c13:fG=true
      case neg =>
       replace c13:=Bool.eq_false_iff.mpr c13
       subst c13
       have H1:(bB.l4 k2 l0 mN false 0)=some (r1,r2):=by rw [if_neg (show ¬ (false=true) by decide)] at H;exact H
       clear H
       have H:=H1
       clear H1
       have H':=k0 H
       clear H
       go_wp2
       go_loopg [9,15] k2 (fun kq v9 Ld w'=>∃ (Gq:Bool) (nS:Int),v9=.bool Gq∧Ld=.int .i64 nS∧au (bB.l4 kq l0 mN Gq nS=some (r1,r2))∧au (kq≤k2)∧au (Kd.R Kd.bool 133 w' w.heap.size (fun _=>True) l6 mN)∧au (Below w.heap.size w w'))
       case atStart=>exact ⟨(false),(0),rs,rs,H',⟨Nat.le_refl _⟩,⟨aR (bF.out)⟩,⟨bl⟩⟩
       case round =>
        clear H'
        (try clear c4);(try clear eA);(try clear mB);(try clear c7);(try clear gK);(try clear c8);(try clear iX);(try clear c9);(try clear k8);(try clear pI);(try clear pL);(try clear c13);(try clear c14);(try clear ku);(try clear c15);(try clear kR);(try clear c16);(try clear qN);(try clear z7);(try clear c17);(try clear oN);(try clear c18);(try clear tY);(try clear c20);(try clear c22);(try clear qO);(try clear c23);(try clear rI);(try clear c24);(try clear t_);(try clear c26);(try clear wG);(try clear c27);(try clear sr);(try clear c29);(try clear c30);(try clear H9);(try clear c31);(try clear oh);(try clear Dx);(try clear DA);(try clear dY);(try clear dF);(try clear fR);(try clear fu);(try clear akF);(try clear AG);(try clear abE);(try clear pI);(try clear cX);(try clear dN);(try clear gh);(try clear ec);(try clear eG);(try clear Dx);(try clear pL);(try clear cU);(try clear dH);(try clear gj);(try clear dS);(try clear ew);(try clear DA)
        obtain ⟨Gq,nS,rfl,rfl,HA,dg,bF,HB⟩:=hrel
        cases gk with
        | zero=>exact absurd HA.out (by simp [bB.l4])
        | succ k3 =>
         have H:=HA.out
         clear HA
         simp only [bB.l4] at H
         by_cases c38:nS < (l0.length:Int)
         case neg =>
          rw [if_neg c38] at H
          have wH:decide (nS < (l0.length:Int))=false:=decide_eq_false c38
          clear c38
          simp only [Option.some.injEq,Prod.mk.injEq] at H
          obtain ⟨rfl,rfl⟩:=H
          have Qz:=zX HV.out bF.out
          obtain ⟨b0,b1,b2,b3,b4,b5,b6,b7,OY⟩:=NX _ Qz
          rw [OY] at bF
          obtain ⟨agK,agL,agM,agN,agO,agP,agQ,agR⟩:=Ng HV.out bF.out
          replace zC:=k0 (akj zC.out HB.out)
          have Fj:=Sc (P:=Try.prog) (w:=wr) (g:=gR) (o:=0) 133 (.agg #[.bool b0,.bool b1,.bool b2,.bool b3,.bool b4,.bool b5,.bool b6,.bool b7]) [.bool b0,.bool b1,.bool b2,.bool b3,.bool b4,.bool b5,.bool b6,.bool b7] zC.out rfl (by kernel_rfl) (by simp) (by simp [Value.oneCell'])
          go_wp2_with ((with_reducible refine lf (t:=133) (p:=6) rfl ?_);refine lq (t:=133) (p:=6) (v:=?aeH) (w1:=wr.setCells gR 0 [.bool b0,.bool b1,.bool b2,.bool b3,.bool b4,.bool b5,.bool b6,.bool b7]) ?hg ?ho ?hn ?hr ?_;(case ho=>rfl);(case hg=>rfl);(case hn=>rfl);(case hr=>(unfold execOp;dsimp only;(show Sem.run Try.prog (do Instr.storeAt 133 (Value.pointer (some ⟨gR,0,none⟩)) (.agg #[.bool b0,.bool b1,.bool b2,.bool b3,.bool b4,.bool b5,.bool b6,.bool b7]);pure Next.skip) wr=_);rw [Sem.run_bind,Fj];rfl));intro wz hw)
          subst hw
          obtain ⟨EJ,wV,O5,E2⟩:=uA [.bool b0,.bool b1,.bool b2,.bool b3,.bool b4,.bool b5,.bool b6,.bool b7] 0 wr _ zC.out (by simp)
          have E3:EJ=#[.bool b0,.bool b1,.bool b2,.bool b3,.bool b4,.bool b5,.bool b6,.bool b7]:=Array.toList_inj.1 (by rw [E2];rfl)
          rw [E3] at wV
          have Ar:Below W0.heap.size W0 (wr.setCells gR 0 [.bool b0,.bool b1,.bool b2,.bool b3,.bool b4,.bool b5,.bool b6,.bool b7]):=by
           simp only [World.setCells]
           exact dM (dM (dM (dM (dM (dM (dM (dM (aI HW.out HB.out) GR.out) GR.out) GR.out) GR.out) GR.out) GR.out) GR.out) GR.out
          generalize wr.setCells gR 0 [.bool b0,.bool b1,.bool b2,.bool b3,.bool b4,.bool b5,.bool b6,.bool b7]=wz at wV Ar ⊢
          refine bodyPost_ret (adO rfl _ _ gR 133 #[.bool b0,.bool b1,.bool b2,.bool b3,.bool b4,.bool b5,.bool b6,.bool b7] (0,0) _ rfl wV Try.underlying133 rfl (by kernel_rfl)) rfl ?_
          exact ⟨⟨by rw [OY];rfl,Qz⟩,Ar⟩
         rw [if_pos c38] at H
         have wH:=decide_eq_true c38
         clear c38
         by_cases c39:Gq=true
         case neg =>
          replace c39:=Bool.eq_false_iff.mpr c39
          subst c39
          have H1:(if 0≤nS then (if nS < (8:Int) then (bB.l4 k3 l0 mN (nP false mN nS) (wrap64 (nS+1))) else (none)) else (none))=some (r1,r2):=by rw [if_neg (show ¬ (false=true) by decide)] at H;exact H
          clear H
          have H:=H1
          clear H1
          replace H:=iS H;obtain ⟨c40,H⟩:=H
          have alx:=decide_eq_true c40
          clear c40
          replace H:=iS H;obtain ⟨c41,H⟩:=H
          have Aa:=decide_eq_true c41
          have afU:(nS < (8:Int))=True:=eq_true c41
          have afT:decide (nS < (mN.length:Int))=true:=decide_eq_true (by rw [Zc];exact c41)
          clear c41
          have H':=k0 H
          clear H
          have gi:0≤(nS:Int):=oD
          have gl:nS < (mN.length:Int):=oD
          have gM:=ak4 HV.out bF.out nS gi gl
          replace gi:=eq_true gi
          replace gl:=eq_true gl
          go_wp2
          go_roundg k3
          case measure=>have:=akl.out;have:=bz.out;have:=dg.out;omega
          case rel=>exact ⟨(nP false mN nS),(wrap64 (nS+1)),rs,rs,H',⟨by have:=akl.out;have:=bz.out;have:=dg.out;omega⟩,⟨aR (bF.out)⟩,⟨bl⟩⟩
         subst c39
         have H1:(bB.l4 k3 l0 mN true (wrap64 (nS+1)))=some (r1,r2):=by rw [if_pos rfl] at H;exact H
         clear H
         have H:=H1
         clear H1
         have H':=k0 H
         clear H
         go_wp2
         go_roundg k3
         case measure=>have:=akl.out;have:=bz.out;have:=dg.out;omega
         case rel=>exact ⟨(true),(wrap64 (nS+1)),rs,rs,H',⟨by have:=akl.out;have:=bz.out;have:=dg.out;omega⟩,⟨aR (bF.out)⟩,⟨bl⟩⟩
      subst c13
      have H1:(bB.l2 k2 l0 l1 mN false false 0)=some (r1,r2):=by rw [if_pos rfl] at H;exact H
      clear H
      have H:=H1
      clear H1
      have H':=k0 H
      clear H
      go_wp2
      go_loopg [11,12] k2 (fun kq v11 v12 w'=>∃ (aY:List Bool) (pR:Bool) (cz:Int),v11=.bool pR∧v12=.int .i64 cz∧au (bB.l2 kq l0 l1 aY false pR cz=some (r1,r2))∧au (kq≤k2)∧au (Kd.R Kd.bool 133 w' w.heap.size (fun _=>True) l6 aY)∧au (Below w.heap.size w w'))
      case atStart=>exact ⟨(mN),(false),(0),rs,rs,H',⟨Nat.le_refl _⟩,⟨aR (bF.out)⟩,⟨bl⟩⟩
      case round =>
       clear H'
       (try clear c4);(try clear eA);(try clear mB);(try clear c7);(try clear gK);(try clear c8);(try clear iX);(try clear c9);(try clear k8);(try clear pI);(try clear pL);(try clear c13);(try clear AG);(try clear pI);(try clear pL)
       obtain ⟨aY,pR,cz,rfl,rfl,HA,dg,bF,HB⟩:=hrel
       have I5:=zX HV.out bF.out
       cases gk with
       | zero=>exact absurd HA.out (by simp [bB.l2])
       | succ k3 =>
        have H:=HA.out
        clear HA
        simp only [bB.l2] at H
        by_cases c14:cz < (l0.length:Int)
        case neg =>
         rw [if_neg c14] at H
         have ku:decide (cz < (l0.length:Int))=false:=decide_eq_false c14
         clear c14
         have H':=k0 H
         clear H
         go_wp2
         go_roundg k3
         case measure=>have:=akl.out;have:=bz.out;have:=dg.out;omega
         case rel=>exact ⟨(aY),(pR),rs,H',⟨by have:=akl.out;have:=bz.out;have:=dg.out;omega⟩,⟨aR (bF.out)⟩,⟨bl⟩⟩
        rw [if_pos c14] at H
        have ku:=decide_eq_true c14
        clear c14
        have H':=k0 H
        clear H
        go_wp2
        go_loopg [13,14] k3 (fun kq zo Gh w'=>∃ (qx:Int) (iu:Int),zo=.int .i64 qx∧Gh=.int .i64 iu∧au (bB.l3 kq l0 l1 aY false pR cz qx iu=some (r1,r2))∧au (kq≤k3)∧au (Kd.R Kd.bool 133 w' w.heap.size (fun _=>True) l6 aY)∧au (Below w.heap.size w w'))
        case atStart=>exact ⟨(0),(0),rs,rs,H',⟨Nat.le_refl _⟩,⟨aR (bF.out)⟩,⟨bl⟩⟩
        case round =>
         clear H'
         (try clear c4);(try clear eA);(try clear mB);(try clear c7);(try clear gK);(try clear c8);(try clear iX);(try clear c9);(try clear k8);(try clear pI);(try clear pL);(try clear c13);(try clear c14);(try clear ku);(try clear AG);(try clear pI);(try clear pL)
         obtain ⟨qx,iu,rfl,rfl,HA,gv,bF,HB⟩:=hrel
         cases gk with
         | zero=>exact absurd HA.out (by simp [bB.l3])
         | succ k4 =>
          have H:=HA.out
          clear HA
          simp only [bB.l3] at H
          by_cases c15:iu < (l0.length:Int)
          case neg =>
           rw [if_neg c15] at H
           have kR:decide (iu < (l0.length:Int))=false:=decide_eq_false c15
           clear c15
           replace H:=iS H;obtain ⟨c26,H⟩:=H
           have wG:=decide_eq_true c26
           clear c26
           replace H:=iS H;obtain ⟨c27,H⟩:=H
           have sr:=decide_eq_true c27
           have afR:(cz < (8:Int))=True:=eq_true c27
           have afQ:decide (cz < (aY.length:Int))=true:=decide_eq_true (by rw [I5];exact c27)
           clear c27
           obtain ⟨Nr,Je⟩:∃ b_:Bool,b_=(nP false aY cz):=⟨_,rfl⟩
           replace H:(if Nr=true then (if cz < (l1.length:Int) then (if qx > (rd l1 cz) then (bB.l2 k4 l0 l1 (aY.set (cz:Int).toNat false) false true (wrap64 (cz+1))) else (bB.l2 k4 l0 l1 aY false pR (wrap64 (cz+1)))) else (none)) else (bB.l2 k4 l0 l1 aY false pR (wrap64 (cz+1))))=some (r1,r2):=by rw [← Je] at H;exact H
           have HH:=k0 Je
           clear Je
           by_cases c29:Nr=true
           case neg =>
            replace c29:=Bool.eq_false_iff.mpr c29
            subst c29
            have H1:(bB.l2 k4 l0 l1 aY false pR (wrap64 (cz+1)))=some (r1,r2):=by rw [if_neg (show ¬ (false=true) by decide)] at H;exact H
            clear H
            have H:=H1
            clear H1
            have H':=k0 H
            clear H
            have ec:0≤(cz:Int):=oD
            have dS:cz < (aY.length:Int):=oD
            have fu:=ak4 HV.out bF.out cz ec dS
            (try rw [← HH.out] at fu)
            replace ec:=eq_true ec
            replace dS:=eq_true dS
            go_wp2
            go_roundg k4
            case measure=>have:=akl.out;have:=bz.out;have:=dg.out;have:=gv.out;omega
            case rel=>exact ⟨(aY),(pR),(wrap64 (cz+1)),rs,rs,H',⟨by have:=akl.out;have:=bz.out;have:=dg.out;have:=gv.out;omega⟩,⟨aR (bF.out)⟩,⟨bl⟩⟩
           subst c29
           have H1:(if cz < (l1.length:Int) then (if qx > (rd l1 cz) then (bB.l2 k4 l0 l1 (aY.set (cz:Int).toNat false) false true (wrap64 (cz+1))) else (bB.l2 k4 l0 l1 aY false pR (wrap64 (cz+1)))) else (none))=some (r1,r2):=by rw [if_pos rfl] at H;exact H
           clear H
           have H:=H1
           clear H1
           replace H:=iS H;obtain ⟨c30,H⟩:=H
           have H9:=decide_eq_true c30
           clear c30
           by_cases c31:qx > (rd l1 cz)
           case neg =>
            rw [if_neg c31] at H
            have oh:decide ((rd l1 cz) < qx)=false:=decide_eq_false c31
            clear c31
            have H':=k0 H
            clear H
            have ec:0≤(cz:Int):=oD
            have dS:cz < (aY.length:Int):=oD
            have fu:=ak4 HV.out bF.out cz ec dS
            (try rw [← HH.out] at fu)
            replace ec:=eq_true ec
            replace dS:=eq_true dS
            have eG:0≤(cz:Int):=oD
            have ew:cz < (l1.length:Int):=oD
            obtain ⟨lQ,e109,akF⟩:=Kd.bH ek.out cz eG ew
            cases e109
            replace akF:=hbc HB akF
            replace eG:=eq_true eG
            replace ew:=eq_true ew
            go_wp2
            go_roundg k4
            case measure=>have:=akl.out;have:=bz.out;have:=dg.out;have:=gv.out;omega
            case rel=>exact ⟨(aY),(pR),(wrap64 (cz+1)),rs,rs,H',⟨by have:=akl.out;have:=bz.out;have:=dg.out;have:=gv.out;omega⟩,⟨aR (bF.out)⟩,⟨bl⟩⟩
           rw [if_pos c31] at H
           have oh:=decide_eq_true c31
           clear c31
           obtain ⟨tL,ow⟩:∃ y_:List Bool,y_=(aY.set (cz:Int).toNat false):=⟨_,rfl⟩
           replace H:(bB.l2 k4 l0 l1 tL false true (wrap64 (cz+1)))=some (r1,r2):=by first|(rw [ow];with_reducible exact H)|(have ay:=(Option.bind_some _ _).symm.trans H;rw [ow];with_reducible exact ay)|(have ay:=(Option.bind_some _ _).symm.trans H;with_reducible exact ay)|with_reducible exact H|(rw [ow];exact H)|exact H
           have Bk:=k0 ow
           clear ow
           have H':=k0 H
           clear H
           have ec:0≤(cz:Int):=oD
           have dS:cz < (aY.length:Int):=oD
           have fu:=ak4 HV.out bF.out cz ec dS
           (try rw [← HH.out] at fu)
           replace ec:=eq_true ec
           replace dS:=eq_true dS
           have eG:0≤(cz:Int):=oD
           have ew:cz < (l1.length:Int):=oD
           obtain ⟨lQ,e109,akF⟩:=Kd.bH ek.out cz eG ew
           cases e109
           replace akF:=hbc HB akF
           replace eG:=eq_true eG
           replace ew:=eq_true ew
           have Dx:0≤(cz:Int):=oD
           have DA:(cz:Int) < ((aY.length:Int):Int):=oD
           obtain ⟨EW,Xi,Iw,Ot,YQ,agv,Mo⟩:=Kd.akT bF.out (by rw [I5];decide)
           have yG:EW=gL:=by have h_:=Iw.symm.trans HV.out;injection h_ with fJ _ _;injection fJ with fJ;injection fJ
           subst yG
           (first|cases Iw|(injection Iw with bf dn dm;(first|subst bf|(injection bf with bf;subst bf));subst dm;clear dn))
           have TN:=k0 Ot
           have afe:=k0 Mo
           clear Ot YQ Mo
           (first|simp only [add_plain] at fu|skip)
           obtain ⟨abE,ahc⟩:=Kd.jD false bF.out (cz:Int) Dx DA
           replace Dx:=eq_true Dx
           replace DA:=eq_true DA
           have pZ:=Kd.kP bF.out (cz:Int) false
           go_wp2_with (first|((with_reducible refine lf (t:=4) (p:=71) rfl ?_);refine lq (t:=4) (p:=71) (v:=?aeG) (w1:=(wr.setCell ⟨EW,(cz:Int).toNat,none⟩ (.bool false))) ?hg ?ho ?hn ?hr ?_;(case ho=>rfl);(case hg=>rfl);(case hn=>rfl);(case hr=>first|(go_simp;done)|(go_simp;rfl));intro ak' hw;have hg:wr.grownBy ak' (some EW):=(by rw [hw];exact pZ.2);have dZ:Kd.R Kd.bool 133 ak' w.heap.size (fun _=>True) (.slice (some ⟨EW,0,none⟩) aY.length Xi) tL:=(by rw [hw,Bk.out];exact pZ.1);clear pZ;replace bF:=k0 (dZ);replace HB:=k0 ((by rw [hw];exact dM (HB.out) TN.out:Below w.heap.size w ak'));clear hg hw dZ))
           go_roundg k4
           case measure=>have:=akl.out;have:=bz.out;have:=dg.out;have:=gv.out;omega
           case rel=>exact ⟨(tL),(true),(wrap64 (cz+1)),rs,rs,H',⟨by have:=akl.out;have:=bz.out;have:=dg.out;have:=gv.out;omega⟩,⟨aR (bF.out)⟩,⟨bl⟩⟩
          rw [if_pos c15] at H
          have kR:=decide_eq_true c15
          clear c15
          by_cases c16:cz=iu
          case neg =>
           rw [if_neg c16] at H
           have qN:(cz == iu)=false:=beq_eq_false_iff_ne.mpr c16
           have z7:(cz != iu)=true:=bne_iff_ne.mpr c16
           replace H:=iS H;obtain ⟨c17,H⟩:=H
           have oN:=decide_eq_true c17
           clear c17
           replace H:=iS H;obtain ⟨c18,H⟩:=H
           have tY:=decide_eq_true c18
           have afP:(iu < (8:Int))=True:=eq_true c18
           have afO:decide (iu < (aY.length:Int))=true:=decide_eq_true (by rw [I5];exact c18)
           clear c18
           obtain ⟨Nq,Jd⟩:∃ b_:Bool,b_=(nP false aY iu):=⟨_,rfl⟩
           replace H:(if Nq=true then (bB.l3 k4 l0 l1 aY false pR cz qx (wrap64 (iu+1))) else (if 0≤cz then (if cz < (l0.length:Int) then (if iu < ((ah l0 cz).length:Int) then (bB.l3 k4 l0 l1 aY false pR cz (wrap64 (qx - (rd (ah l0 cz) iu))) (wrap64 (iu+1))) else (none)) else (none)) else (none)))=some (r1,r2):=by rw [← Jd] at H;exact H
           have MW:=k0 Jd
           clear Jd
           by_cases c20:Nq=true
           case neg =>
            replace c20:=Bool.eq_false_iff.mpr c20
            subst c20
            have H1:(if 0≤cz then (if cz < (l0.length:Int) then (if iu < ((ah l0 cz).length:Int) then (bB.l3 k4 l0 l1 aY false pR cz (wrap64 (qx - (rd (ah l0 cz) iu))) (wrap64 (iu+1))) else (none)) else (none)) else (none))=some (r1,r2):=by rw [if_neg (show ¬ (false=true) by decide)] at H;exact H
            clear H
            have H:=H1
            clear H1
            replace H:=iS H;obtain ⟨c22,H⟩:=H
            have qO:=decide_eq_true c22
            clear c22
            replace H:=iS H;obtain ⟨c23,H⟩:=H
            have rI:=decide_eq_true c23
            clear c23
            replace H:=iS H;obtain ⟨c24,H⟩:=H
            have t_:=decide_eq_true c24
            clear c24
            have H':=k0 H
            clear H
            have cX:0≤(iu:Int):=oD
            have cU:iu < (aY.length:Int):=oD
            have dY:=ak4 HV.out bF.out iu cX cU
            (try rw [← MW.out] at dY)
            replace cX:=eq_true cX
            replace cU:=eq_true cU
            have dN:0≤(cz:Int):=oD
            have dH:cz < (l0.length:Int):=oD
            obtain ⟨gB,Gs,ami,e106,dF,ali,sP⟩:=cW fj.out cz dN dH
            cases e106
            replace dF:=hbc HB dF
            have oH:=k0 sP
            have GN:=k0 ali
            clear sP ali
            replace dN:=eq_true dN
            replace dH:=eq_true dH
            have gh:0≤(iu:Int):=oD
            have gj:iu < ((ah l0 cz).length:Int):=oD
            obtain ⟨o9,e107,fR⟩:=Kd.bH oH.out iu gh gj
            cases e107
            replace fR:=hbc HB fR
            replace gh:=eq_true gh
            replace gj:=eq_true gj
            go_wp2
            go_roundg k4
            case measure=>have:=akl.out;have:=bz.out;have:=dg.out;have:=gv.out;omega
            case rel=>exact ⟨(wrap64 (qx - (rd (ah l0 cz) iu))),(wrap64 (iu+1)),rs,rs,H',⟨by have:=akl.out;have:=bz.out;have:=dg.out;have:=gv.out;omega⟩,⟨aR (bF.out)⟩,⟨bl⟩⟩
           subst c20
           have H1:(bB.l3 k4 l0 l1 aY false pR cz qx (wrap64 (iu+1)))=some (r1,r2):=by rw [if_pos rfl] at H;exact H
           clear H
           have H:=H1
           clear H1
           have H':=k0 H
           clear H
           have cX:0≤(iu:Int):=oD
           have cU:iu < (aY.length:Int):=oD
           have dY:=ak4 HV.out bF.out iu cX cU
           (try rw [← MW.out] at dY)
           replace cX:=eq_true cX
           replace cU:=eq_true cU
           go_wp2
           go_roundg k4
           case measure=>have:=akl.out;have:=bz.out;have:=dg.out;have:=gv.out;omega
           case rel=>exact ⟨(qx),(wrap64 (iu+1)),rs,rs,H',⟨by have:=akl.out;have:=bz.out;have:=dg.out;have:=gv.out;omega⟩,⟨aR (bF.out)⟩,⟨bl⟩⟩
          rw [if_pos c16] at H
          have qN:(cz == iu)=true:=beq_iff_eq.mpr c16
          have z7:(cz != iu)=false:=bne_eq_false_iff_eq.mpr c16
          clear c16
          have H':=k0 H
          clear H
          go_wp2
          go_roundg k4
          case measure=>have:=akl.out;have:=bz.out;have:=dg.out;have:=gv.out;omega
          case rel=>exact ⟨(qx),(wrap64 (iu+1)),rs,rs,H',⟨by have:=akl.out;have:=bz.out;have:=dg.out;have:=gv.out;omega⟩,⟨aR (bF.out)⟩,⟨bl⟩⟩
   rw [if_pos c7] at H
   have gK:=decide_eq_true c7
   clear c7
   replace H:=iS H;obtain ⟨c8,H⟩:=H
   have iX:=decide_eq_true c8
   clear c8
   replace H:=iS H;obtain ⟨c9,H⟩:=H
   have k8:=decide_eq_true c9
   have c9P:(eI < (8:Int))=True:=eq_true c9
   have c9L:decide (eI < (bE.length:Int))=true:=decide_eq_true (by rw [OQ];exact c9)
   clear c9
   obtain ⟨nV,jt⟩:∃ y_:List Bool,y_=(bE.set (eI:Int).toNat (eI != a2)):=⟨_,rfl⟩
   replace H:(bB.l0 k1 l0 l1 a2 nV false (wrap64 (eI+1)))=some (r1,r2):=by first|(rw [jt];with_reducible exact H)|(have ay:=(Option.bind_some _ _).symm.trans H;rw [jt];with_reducible exact ay)|(have ay:=(Option.bind_some _ _).symm.trans H;with_reducible exact ay)|with_reducible exact H|(rw [jt];exact H)|exact H
   have tU:=k0 jt
   clear jt
   have H':=k0 H
   clear H
   have pI:0≤(eI:Int):=oD
   have pL:(eI:Int) < ((bE.length:Int):Int):=oD
   obtain ⟨sG,pn,qa,BU,IU,am5,Bb⟩:=Kd.akT bF.out (by rw [OQ];decide)
   have yG:sG=gL:=by have h_:=qa.symm.trans HV.out;injection h_ with fJ _ _;injection fJ with fJ;injection fJ
   subst yG
   (first|cases qa|(injection qa with bf dn dm;(first|subst bf|(injection bf with bf;subst bf));subst dm;clear dn))
   have GD:=k0 BU
   have TT:=k0 Bb
   clear BU IU Bb
   obtain ⟨AG,PI⟩:=Kd.jD false bF.out (eI:Int) pI pL
   replace pI:=eq_true pI
   replace pL:=eq_true pL
   have r8:=Kd.kP bF.out (eI:Int) (eI != a2)
   go_wp2_with (first|((with_reducible refine lf (t:=4) (p:=27) rfl ?_);refine lq (t:=4) (p:=27) (v:=?aeE) (w1:=(wr.setCell ⟨sG,(eI:Int).toNat,none⟩ (.bool (eI != a2)))) ?hg ?ho ?hn ?hr ?_;(case ho=>rfl);(case hg=>rfl);(case hn=>rfl);(case hr=>first|(go_simp;done)|(go_simp;rfl));intro jb hw;have hg:wr.grownBy jb (some sG):=(by rw [hw];exact r8.2);have dZ:Kd.R Kd.bool 133 jb w.heap.size (fun _=>True) (.slice (some ⟨sG,0,none⟩) bE.length pn) nV:=(by rw [hw,tU.out];exact r8.1);clear r8;replace bF:=k0 (dZ);replace HB:=k0 ((by rw [hw];exact dM (HB.out) GD.out:Below w.heap.size w jb));clear hg hw dZ))
   go_roundg k1
   case measure=>have:=akl.out;omega
   case rel=>exact ⟨(nV),(wrap64 (eI+1)),rs,H',⟨by have:=akl.out;omega⟩,⟨aR (bF.out)⟩,⟨bl⟩⟩
def bB.f (k:Nat) (l0:List (List Int)) (l1:List Int) (a2:Int):Option Bool:=(bB.fA k l0 l1 a2).map Prod.snd
theorem bB.mono:∀ a0 a1 a2 k,aj (bB.f k a0 a1 a2) (bB.f (k+1) a0 a1 a2):=by
 intro a0 a1 a2 k r h
 unfold bB.f at h ⊢
 obtain ⟨x,hx,rfl⟩:=Option.map_eq_some_iff.1 h
 rw [bB.AL _ _ _ _ _ hx];rfl
set_option maxHeartbeats 8000000 in
set_option maxRecDepth 100000 in
theorem bB.calls (k : Nat) (A0 : Option Addr) (c0 : Nat) (l0 : List (List Int)) (A1 : Option Addr) (c1 : Nat) (l1 : List Int) (a2 : Int) (r : Bool) (w : World) (dB : Kd.C (Kd.slice 2 (Kd.int .i64)) w A0 l0.length l0) (hc0 : l0.length ≤ c0) (cQ : Kd.C (Kd.int .i64) w A1 l1.length l1) (ef : l1.length ≤ c1) (h : bB.f k l0 l1 a2 = some r) :
  Calls Try.prog 176 #[.slice A0 l0.length c0,.slice A1 l1.length c1,.int .i64 a2] w fun e w'=>(∃ b0 b1 b2 b3 b4 b5 b6 b7:Bool,e=.returned (.tuple #[.agg #[.bool b0,.bool b1,.bool b2,.bool b3,.bool b4,.bool b5,.bool b6,.bool b7],.bool r]))∧Below w.heap.size w w':=by
 unfold bB.f at h
 obtain ⟨⟨xs,b⟩,hx,rfl⟩:=Option.map_eq_some_iff.1 h
 exact (bB.alQ k A0 c0 l0 A1 c1 l1 a2 xs b w dB hc0 cQ ef hx).mono fun e w' ⟨⟨he,h8⟩,hb⟩=>by
  obtain ⟨b0,b1,b2,b3,b4,b5,b6,b7,e8⟩:=NX xs h8
  exact ⟨⟨b0,b1,b2,b3,b4,b5,b6,b7,by rw [he,e8];rfl⟩,hb⟩
end Go.Proofs.Ytoebojnhchocaaa.C
/- Set with little white space, by a program. -/
