/- The functions that one law reaches, each as a Lean function, and that Go's call comes to what it says. Condition of each: that the Lean function answers (is not none). -/
import Derived.Test.YtoebojnhchocaaaDx0
namespace Go.Proofs.Ytoebojnhchocaaa.D
open Go.RowKit Go.Proofs.bR.eC Go.Proofs.bR.je Go.Proofs.bR.jO
attribute [local go_sem] max2_int min2_int max_two min_two max_three min_three max_four min_four   -- for this text's walks alone
set_option linter.unusedVariables false
set_option linter.unusedSimpArgs false
/-! ### F176: function 176 -/
theorem O3 (l:List Bool) (h:l.length=8):∃ b0 b1 b2 b3 b4 b5 b6 b7,l=[b0,b1,b2,b3,b4,b5,b6,b7]:=by
 match l,h with
 | [b0,b1,b2,b3,b4,b5,b6,b7],_=>exact ⟨b0,b1,b2,b3,b4,b5,b6,b7,rfl⟩
theorem WU {w:World} {t:Nat} (xs:List Bool) (hm:xs.length≤9223372036854775807:=by decide):Kd.R Kd.bool t (w.alloc (.cells (xs.map Value.bool).toArray t (0,0))) w.heap.size (fun _=>True) (.slice (some ⟨w.heap.size,0,none⟩) xs.length xs.length) xs:=by
 refine Kd.Af ?_ (fun _ _=>trivial)
 have h2:=World.ownsRow_lit (base:=w.heap.size) (e:=t) (size:=1) w (xs.map Value.bool).toArray xs.length (Nat.le_refl _) (by simpa [maxLen] using hm) (by simp)
 simpa [fl] using h2
theorem Aq {w:World} {t g base:Nat} {ok:Nat→Prop} {v:Value} {xs:List Bool} (hv:v=.slice (some ⟨g,0,none⟩) 8 8) (h:Kd.R Kd.bool t w base ok v xs):xs.length=8:=by
 subst hv
 have:=(Kd.bx h).1
 omega
theorem qh {w:World} {t g base:Nat} {ok:Nat→Prop} {v:Value} {xs:List Bool} (hv:v=.slice (some ⟨g,0,none⟩) 8 8) (h:Kd.R Kd.bool t w base ok v xs) (i:Int) (h0:0≤i) (h1:i < (xs.length:Int)):w.cell? ⟨g,i.toNat,none⟩=some (.bool (nQ false xs i)):=by
 have hl:=Aq hv h
 subst hv
 exact (Kd.jB false h i h0 (by omega)).1
theorem On {w:World} {t g base:Nat} {ok:Nat→Prop} {v:Value} {b0 b1 b2 b3 b4 b5 b6 b7:Bool} (hv:v=.slice (some ⟨g,0,none⟩) 8 8) (h:Kd.R Kd.bool t w base ok v [b0,b1,b2,b3,b4,b5,b6,b7]):w.cell? ⟨g,0,none⟩=some (.bool b0)∧w.cell? ⟨g,1,none⟩=some (.bool b1)∧w.cell? ⟨g,2,none⟩=some (.bool b2)∧w.cell? ⟨g,3,none⟩=some (.bool b3)∧w.cell? ⟨g,4,none⟩=some (.bool b4)∧w.cell? ⟨g,5,none⟩=some (.bool b5)∧w.cell? ⟨g,6,none⟩=some (.bool b6)∧w.cell? ⟨g,7,none⟩=some (.bool b7) :=
 ⟨qh hv h 0 (by decide) (by simp),qh hv h 1 (by decide) (by simp),qh hv h 2 (by decide) (by simp),qh hv h 3 (by decide) (by simp),qh hv h 4 (by decide) (by simp),qh hv h 5 (by decide) (by simp),qh hv h 6 (by decide) (by simp),qh hv h 7 (by decide) (by simp)⟩
mutual
def bG.l0 : Nat → List (List Int) → List Int → Int → List Bool → Bool → Int → Option (List Bool × Bool)
 | 0,_,_,_,_,_,_=>none
 | k+1,x0,x1,x2,x8,x9,dS=>if dS < (x0.length:Int) then (if 0≤dS then (if dS < (8:Int) then (bG.l0 k x0 x1 x2 (x8.set (dS:Int).toNat (dS != x2)) x9 (wrap64 (dS+1))) else (none)) else (none)) else (bG.l1 k x0 x1 x8 x9 true)
def bG.l1 : Nat → List (List Int) → List Int → List Bool → Bool → Bool → Option (List Bool × Bool)
 | 0,_,_,_,_,_=>none
 | k+1,x0,x1,x8,x9,eO=>if eO=true then (bG.l2 k x0 x1 x8 x9 false 0) else (bG.l4 k x0 x8 x9 0)
def bG.l2 : Nat → List (List Int) → List Int → List Bool → Bool → Bool → Int → Option (List Bool × Bool)
 | 0,_,_,_,_,_,_=>none
 | k+1,x0,x1,x8,x9,eO,fP=>if fP < (x0.length:Int) then (bG.l3 k x0 x1 x8 x9 eO fP 0 0) else (bG.l1 k x0 x1 x8 x9 eO)
def bG.l3 : Nat → List (List Int) → List Int → List Bool → Bool → Bool → Int → Int → Int → Option (List Bool × Bool)
 | 0,_,_,_,_,_,_,_,_=>none
 | k+1,x0,x1,x8,x9,eO,fP,gO,oJ=>if oJ < (x0.length:Int) then (if fP=oJ then (bG.l3 k x0 x1 x8 x9 eO fP gO (wrap64 (oJ+1))) else (if 0≤oJ then (if oJ < (8:Int) then (if nQ false x8 oJ=true then (bG.l3 k x0 x1 x8 x9 eO fP gO (wrap64 (oJ+1))) else (if 0≤fP then (if fP < (x0.length:Int) then (if oJ < ((ah x0 fP).length:Int) then (bG.l3 k x0 x1 x8 x9 eO fP (wrap64 (gO - (rd (ah x0 fP) oJ))) (wrap64 (oJ+1))) else (none)) else (none)) else (none))) else (none)) else (none))) else (if 0≤fP then (if fP < (8:Int) then (if nQ false x8 fP=true then (if fP < (x1.length:Int) then (if gO > (rd x1 fP) then (bG.l2 k x0 x1 (x8.set (fP:Int).toNat false) x9 true (wrap64 (fP+1))) else (bG.l2 k x0 x1 x8 x9 eO (wrap64 (fP+1)))) else (none)) else (bG.l2 k x0 x1 x8 x9 eO (wrap64 (fP+1)))) else (none)) else (none))
def bG.l4 : Nat → List (List Int) → List Bool → Bool → Int → Option (List Bool × Bool)
 | 0,_,_,_,_=>none
 | k+1,x0,x8,x9,gx=>if gx < (x0.length:Int) then (if x9=true then (bG.l4 k x0 x8 true (wrap64 (gx+1))) else (if 0≤gx then (if gx < (8:Int) then (bG.l4 k x0 x8 (nQ false x8 gx) (wrap64 (gx+1))) else (none)) else (none))) else (some (x8,x9))
end
def bG.fA (k:Nat) (l0:List (List Int)) (l1:List Int) (a2:Int):Option (List Bool × Bool):=if 8≤281474976710656 then (bG.l0 k l0 l1 a2 (List.replicate 8 false) false 0) else (none)
theorem bG.bU : ∀ k, (∀ y0 y1 y2 y3 y4 y5, aj (bG.l0 k y0 y1 y2 y3 y4 y5) (bG.l0 (k + 1) y0 y1 y2 y3 y4 y5)) ∧ (∀ y0 y1 y2 y3 y4, aj (bG.l1 k y0 y1 y2 y3 y4) (bG.l1 (k + 1) y0 y1 y2 y3 y4)) ∧ (∀ y0 y1 y2 y3 y4 y5, aj (bG.l2 k y0 y1 y2 y3 y4 y5) (bG.l2 (k + 1) y0 y1 y2 y3 y4 y5)) ∧ (∀ y0 y1 y2 y3 y4 y5 y6 y7, aj (bG.l3 k y0 y1 y2 y3 y4 y5 y6 y7) (bG.l3 (k + 1) y0 y1 y2 y3 y4 y5 y6 y7)) ∧ (∀ y0 y1 y2 y3, aj (bG.l4 k y0 y1 y2 y3) (bG.l4 (k + 1) y0 y1 y2 y3))
 | 0=>⟨fun _ _ _ _ _ _ r h=>by simp [bG.l0] at h,fun _ _ _ _ _ r h=>by simp [bG.l1] at h,fun _ _ _ _ _ _ r h=>by simp [bG.l2] at h,fun _ _ _ _ _ _ _ _ r h=>by simp [bG.l3] at h,fun _ _ _ _ r h=>by simp [bG.l4] at h⟩
 | k+1=>by
  obtain ⟨alg,ih1,ih2,ih3,ih4⟩:=bG.bU k
  refine ⟨?_, ?_, ?_, ?_, ?_⟩ <;> intros <;> (first | unfold bG.l0 | unfold bG.l1 | unfold bG.l2 | unfold bG.l3 | unfold bG.l4) <;> repeat' first
   | (with_reducible first|exact alg _ _ _ _ _ _|exact ih1 _ _ _ _ _|exact ih2 _ _ _ _ _ _|exact ih3 _ _ _ _ _ _ _ _|exact ih4 _ _ _ _|exact aj.refl _|exact aj.none _|refine aj.ite ?_ ?_|refine aj.bind ?_ (fun _=>?_))
   | exact alg _ _ _ _ _ _|exact ih1 _ _ _ _ _|exact ih2 _ _ _ _ _ _|exact ih3 _ _ _ _ _ _ _ _|exact ih4 _ _ _ _|exact aj.none _|refine aj.ite ?_ ?_|refine aj.bind ?_ (fun _=>?_)
theorem bG.Br:∀ a0 a1 a2 k,aj (bG.fA k a0 a1 a2) (bG.fA (k+1) a0 a1 a2):=by
 intro a0 a1 a2 k
 obtain ⟨alg,ih1,ih2,ih3,ih4⟩:=bG.bU k
 unfold bG.fA
 repeat' first
  | (with_reducible first|exact alg _ _ _ _ _ _|exact ih1 _ _ _ _ _|exact ih2 _ _ _ _ _ _|exact ih3 _ _ _ _ _ _ _ _|exact ih4 _ _ _ _|exact aj.refl _|exact aj.none _|refine aj.ite ?_ ?_|refine aj.bind ?_ (fun _=>?_))
  | exact alg _ _ _ _ _ _|exact ih1 _ _ _ _ _|exact ih2 _ _ _ _ _ _|exact ih3 _ _ _ _ _ _ _ _|exact ih4 _ _ _ _|exact aj.none _|refine aj.ite ?_ ?_|refine aj.bind ?_ (fun _=>?_)
set_option maxHeartbeats 8000000 in
set_option maxRecDepth 100000 in
theorem bG.yu (k : Nat) (A0 : Option Addr) (c0 : Nat) (l0 : List (List Int)) (A1 : Option Addr) (c1 : Nat) (l1 : List Int) (a2 : Int) (r1 : List Bool) (r2 : Bool) (W0 : World) (cS : Kd.C (Kd.slice 2 (Kd.int .i64)) W0 A0 l0.length l0) (hc0 : l0.length ≤ c0) (c_ : Kd.C (Kd.int .i64) W0 A1 l1.length l1) (eY : l1.length ≤ c1) (h : bG.fA k l0 l1 a2 = some (r1, r2)) :
  Calls Try.prog 176 #[.slice A0 l0.length c0,.slice A1 l1.length c1,.int .i64 a2] W0 fun e w'=>(e=.returned (.tuple #[.agg (r1.map Value.bool).toArray,.bool r2])∧r1.length=8)∧Below W0.heap.size W0 w':=by
 have fe:=k0 cS
 have alR:=k0 hc0
 clear cS hc0
 have eP:=k0 c_
 have kT:=k0 eY
 clear c_ eY
 have H:(if 8≤281474976710656 then (bG.l0 k l0 l1 a2 (List.replicate 8 false) false 0) else (none))=some (r1,r2):=h
 clear h
 replace H:=iS H;obtain ⟨c4,H⟩:=H
 have eD:=eq_true c4
 have l7:=decide_eq_true c4
 clear c4
 obtain ⟨jx,gf⟩:∃ y_:List Bool,y_=(List.replicate 8 false):=⟨_,rfl⟩
 replace H:(bG.l0 k l0 l1 a2 jx false 0)=some (r1,r2):=by first|(rw [gf];with_reducible exact H)|(have ax:=(Option.bind_some _ _).symm.trans H;rw [gf];with_reducible exact ax)|(have ax:=(Option.bind_some _ _).symm.trans H;with_reducible exact ax)|with_reducible exact H|(rw [gf];exact H)|exact H
 have mq:=k0 gf
 clear gf
 have H':=k0 H
 clear H
 go_enter Try.func176,Try.ntmps176
 go_wp2
 have HW:=k0 (dh (Below.refl W0.heap.size W0) (.cells #[Value.bool false,.bool false,.bool false,.bool false,.bool false,.bool false,.bool false,.bool false] 133 (0,0)))
 have am2:=k0 (heap_alloc_new W0 (.cells #[Value.bool false,.bool false,.bool false,.bool false,.bool false,.bool false,.bool false,.bool false] 133 (0,0)))
 have GR:=k0 (Nat.le_refl W0.heap.size)
 have F9:(W0.alloc (.cells #[Value.bool false,.bool false,.bool false,.bool false,.bool false,.bool false,.bool false,.bool false] 133 (0,0))).heap.size=W0.heap.size+1:=by unfold World.alloc;exact Array.size_push _
 generalize abz:W0.heap.size=gR at am2 F9 ⊢
 replace GR:au (W0.heap.size≤gR):=⟨by omega⟩
 clear abz
 replace fe:=k0 (Kd.bK fe.out HW.out);replace eP:=k0 (Kd.bK eP.out HW.out)
 generalize W0.alloc (.cells #[Value.bool false,.bool false,.bool false,.bool false,.bool false,.bool false,.bool false,.bool false] 133 (0,0))=w at fe eP HW am2 F9 ⊢
 have HB:=k0 (dh (Below.refl w.heap.size w) (.cells #[Value.bool false,.bool false,.bool false,.bool false,.bool false,.bool false,.bool false,.bool false] 133 (0,0)))
 have kU:=k0 (WU (w:=w) (t:=133) (List.replicate 8 false))
 rw [← mq.out] at kU
 obtain ⟨gL,yX⟩:∃ g:Nat,g=gR+1:=⟨_,rfl⟩
 rw [← yX]
 obtain ⟨mg,zf⟩:∃ v_:Value,v_=.slice (some ⟨gL,0,none⟩) 8 8:=⟨_,rfl⟩
 have HV:=k0 zf
 have aE:au (Kd.R Kd.bool 133 (w.alloc (.cells #[Value.bool false,.bool false,.bool false,.bool false,.bool false,.bool false,.bool false,.bool false] 133 (0,0))) w.heap.size (fun _=>True) mg jx):=⟨by rw [zf,yX,← F9];have h_:=kU.out;rw [mq.out] at h_ ⊢;exact h_⟩
 clear kU zf yX F9
 have kU:=aE
 clear aE
 generalize w.alloc (.cells #[Value.bool false,.bool false,.bool false,.bool false,.bool false,.bool false,.bool false,.bool false] 133 (0,0))=ws at kU HB ⊢
 go_loopg [10] k (fun kq v10 w'=>∃ (bg:List Bool) (eJ:Int),v10=.int .i64 eJ∧au (bG.l0 kq l0 l1 a2 bg false eJ=some (r1,r2))∧au (kq≤k)∧au (Kd.R Kd.bool 133 w' w.heap.size (fun _=>True) mg bg)∧au (Below w.heap.size w w'))
 case atStart=>exact ⟨(jx),(0),rs,H',⟨Nat.le_refl _⟩,⟨aR (kU.out)⟩,⟨bl⟩⟩
 case round =>
  clear H'
  (try clear c4);(try clear eD);(try clear l7)
  obtain ⟨bg,eJ,rfl,HA,alj,aZ,HB⟩:=hrel
  have P5:=Aq HV.out aZ.out
  cases gk with
  | zero=>exact absurd HA.out (by simp [bG.l0])
  | succ k1 =>
   have H:=HA.out
   clear HA
   simp only [bG.l0] at H
   by_cases c7:eJ < (l0.length:Int)
   case neg =>
    rw [if_neg c7] at H
    have alJ:decide (eJ < (l0.length:Int))=false:=decide_eq_false c7
    clear c7
    have H':=k0 H
    clear H
    go_wp2
    go_loopg [11] k1 (fun kq v11 w'=>∃ (mP:List Bool) (fG:Bool),v11=.bool fG∧au (bG.l1 kq l0 l1 mP false fG=some (r1,r2))∧au (kq≤k1)∧au (Kd.R Kd.bool 133 w' w.heap.size (fun _=>True) mg mP)∧au (Below w.heap.size w w'))
    case atStart=>exact ⟨(bg),(true),rs,H',⟨Nat.le_refl _⟩,⟨aR (aZ.out)⟩,⟨bl⟩⟩
    case round =>
     clear H'
     (try clear c4);(try clear eD);(try clear l7);(try clear c7);(try clear alJ);(try clear c8);(try clear jg);(try clear c9);(try clear mD);(try clear pS);(try clear pT);(try clear Bk);(try clear pS);(try clear pT)
     obtain ⟨mP,fG,rfl,HA,bB,aZ,HB⟩:=hrel
     have ZX:=Aq HV.out aZ.out
     cases gk with
     | zero=>exact absurd HA.out (by simp [bG.l1])
     | succ k2 =>
      have H:=HA.out
      clear HA
      simp only [bG.l1] at H
      by_cases c13:fG=true
      case neg =>
       replace c13:=Bool.eq_false_iff.mpr c13
       subst c13
       have H1:(bG.l4 k2 l0 mP false 0)=some (r1,r2):=by rw [if_neg (show ¬ (false=true) by decide)] at H;exact H
       clear H
       have H:=H1
       clear H1
       have H':=k0 H
       clear H
       go_wp2
       go_loopg [9,15] k2 (fun kq v9 Mf w'=>∃ (Hh:Bool) (nT:Int),v9=.bool Hh∧Mf=.int .i64 nT∧au (bG.l4 kq l0 mP Hh nT=some (r1,r2))∧au (kq≤k2)∧au (Kd.R Kd.bool 133 w' w.heap.size (fun _=>True) mg mP)∧au (Below w.heap.size w w'))
       case atStart=>exact ⟨(false),(0),rs,rs,H',⟨Nat.le_refl _⟩,⟨aR (aZ.out)⟩,⟨bl⟩⟩
       case round =>
        clear H'
        (try clear c4);(try clear eD);(try clear l7);(try clear c7);(try clear alJ);(try clear c8);(try clear jg);(try clear c9);(try clear mD);(try clear pS);(try clear pT);(try clear c13);(try clear c14);(try clear kH);(try clear c15);(try clear jD);(try clear c16);(try clear qY);(try clear Ax);(try clear c17);(try clear oW);(try clear c18);(try clear qZ);(try clear c20);(try clear c22);(try clear al9);(try clear c23);(try clear rO);(try clear c24);(try clear ur);(try clear c26);(try clear vA);(try clear c27);(try clear rP);(try clear c29);(try clear c30);(try clear Jf);(try clear c31);(try clear oh);(try clear Ek);(try clear En);(try clear dW);(try clear dA);(try clear fN);(try clear fu);(try clear gM);(try clear Bk);(try clear ace);(try clear pS);(try clear alz);(try clear dM);(try clear gi);(try clear ef);(try clear eH);(try clear Ek);(try clear pT);(try clear cV);(try clear dD);(try clear gl);(try clear dR);(try clear ez);(try clear En)
        obtain ⟨Hh,nT,rfl,rfl,HA,cN,aZ,HB⟩:=hrel
        cases gk with
        | zero=>exact absurd HA.out (by simp [bG.l4])
        | succ k3 =>
         have H:=HA.out
         clear HA
         simp only [bG.l4] at H
         by_cases c38:nT < (l0.length:Int)
         case neg =>
          rw [if_neg c38] at H
          have wV:decide (nT < (l0.length:Int))=false:=decide_eq_false c38
          clear c38
          simp only [Option.some.injEq,Prod.mk.injEq] at H
          obtain ⟨rfl,rfl⟩:=H
          have Rz:=Aq HV.out aZ.out
          obtain ⟨b0,b1,b2,b3,b4,b5,b6,b7,Qb⟩:=O3 _ Rz
          rw [Qb] at aZ
          obtain ⟨ahr,ahs,aht,ahu,ahv,ahw,ahx,ahy⟩:=On HV.out aZ.out
          replace am2:=k0 (alm am2.out HB.out)
          have F8:=Tb (P:=Try.prog) (w:=wr) (g:=gR) (o:=0) 133 (.agg #[.bool b0,.bool b1,.bool b2,.bool b3,.bool b4,.bool b5,.bool b6,.bool b7]) [.bool b0,.bool b1,.bool b2,.bool b3,.bool b4,.bool b5,.bool b6,.bool b7] am2.out rfl (by kernel_rfl) (by simp) (by simp [Value.oneCell'])
          go_wp2_with ((with_reducible refine lF (t:=133) (p:=6) rfl ?_);refine lJ (t:=133) (p:=6) (v:=?afo) (w1:=wr.setCells gR 0 [.bool b0,.bool b1,.bool b2,.bool b3,.bool b4,.bool b5,.bool b6,.bool b7]) ?hg ?ho ?hn ?hr ?_;(case ho=>rfl);(case hg=>rfl);(case hn=>rfl);(case hr=>(unfold execOp;dsimp only;(show Sem.run Try.prog (do Instr.storeAt 133 (Value.pointer (some ⟨gR,0,none⟩)) (.agg #[.bool b0,.bool b1,.bool b2,.bool b3,.bool b4,.bool b5,.bool b6,.bool b7]);pure Next.skip) wr=_);rw [Sem.run_bind,F8];rfl));intro wz hw)
          subst hw
          obtain ⟨FB,xg,Qi,FQ⟩:=uP [.bool b0,.bool b1,.bool b2,.bool b3,.bool b4,.bool b5,.bool b6,.bool b7] 0 wr _ am2.out (by simp)
          have FR:FB=#[.bool b0,.bool b1,.bool b2,.bool b3,.bool b4,.bool b5,.bool b6,.bool b7]:=Array.toList_inj.1 (by rw [FQ];rfl)
          rw [FR] at xg
          have AV:Below W0.heap.size W0 (wr.setCells gR 0 [.bool b0,.bool b1,.bool b2,.bool b3,.bool b4,.bool b5,.bool b6,.bool b7]):=by
           simp only [World.setCells]
           exact dJ (dJ (dJ (dJ (dJ (dJ (dJ (dJ (aI HW.out HB.out) GR.out) GR.out) GR.out) GR.out) GR.out) GR.out) GR.out) GR.out
          generalize wr.setCells gR 0 [.bool b0,.bool b1,.bool b2,.bool b3,.bool b4,.bool b5,.bool b6,.bool b7]=wz at xg AV ⊢
          refine bodyPost_ret (aeu rfl _ _ gR 133 #[.bool b0,.bool b1,.bool b2,.bool b3,.bool b4,.bool b5,.bool b6,.bool b7] (0,0) _ rfl xg Try.underlying133 rfl (by kernel_rfl)) rfl ?_
          exact ⟨⟨by rw [Qb];rfl,Rz⟩,AV⟩
         rw [if_pos c38] at H
         have wV:=decide_eq_true c38
         clear c38
         by_cases c39:Hh=true
         case neg =>
          replace c39:=Bool.eq_false_iff.mpr c39
          subst c39
          have H1:(if 0≤nT then (if nT < (8:Int) then (bG.l4 k3 l0 mP (nQ false mP nT) (wrap64 (nT+1))) else (none)) else (none))=some (r1,r2):=by rw [if_neg (show ¬ (false=true) by decide)] at H;exact H
          clear H
          have H:=H1
          clear H1
          replace H:=iS H;obtain ⟨c40,H⟩:=H
          have uu:=decide_eq_true c40
          clear c40
          replace H:=iS H;obtain ⟨c41,H⟩:=H
          have yt:=decide_eq_true c41
          have agC:(nT < (8:Int))=True:=eq_true c41
          have agB:decide (nT < (mP.length:Int))=true:=decide_eq_true (by rw [ZX];exact c41)
          clear c41
          have H':=k0 H
          clear H
          have gj:0≤(nT:Int):=oD
          have alG:nT < (mP.length:Int):=oD
          have gN:=qh HV.out aZ.out nT gj alG
          replace gj:=eq_true gj
          replace alG:=eq_true alG
          go_wp2
          go_roundg k3
          case measure=>have:=alj.out;have:=bB.out;have:=cN.out;omega
          case rel=>exact ⟨(nQ false mP nT),(wrap64 (nT+1)),rs,rs,H',⟨by have:=alj.out;have:=bB.out;have:=cN.out;omega⟩,⟨aR (aZ.out)⟩,⟨bl⟩⟩
         subst c39
         have H1:(bG.l4 k3 l0 mP true (wrap64 (nT+1)))=some (r1,r2):=by rw [if_pos rfl] at H;exact H
         clear H
         have H:=H1
         clear H1
         have H':=k0 H
         clear H
         go_wp2
         go_roundg k3
         case measure=>have:=alj.out;have:=bB.out;have:=cN.out;omega
         case rel=>exact ⟨(true),(wrap64 (nT+1)),rs,rs,H',⟨by have:=alj.out;have:=bB.out;have:=cN.out;omega⟩,⟨aR (aZ.out)⟩,⟨bl⟩⟩
      subst c13
      have H1:(bG.l2 k2 l0 l1 mP false false 0)=some (r1,r2):=by rw [if_pos rfl] at H;exact H
      clear H
      have H:=H1
      clear H1
      have H':=k0 H
      clear H
      go_wp2
      go_loopg [11,12] k2 (fun kq v11 v12 w'=>∃ (aX:List Bool) (jI:Bool) (cx:Int),v11=.bool jI∧v12=.int .i64 cx∧au (bG.l2 kq l0 l1 aX false jI cx=some (r1,r2))∧au (kq≤k2)∧au (Kd.R Kd.bool 133 w' w.heap.size (fun _=>True) mg aX)∧au (Below w.heap.size w w'))
      case atStart=>exact ⟨(mP),(false),(0),rs,rs,H',⟨Nat.le_refl _⟩,⟨aR (aZ.out)⟩,⟨bl⟩⟩
      case round =>
       clear H'
       (try clear c4);(try clear eD);(try clear l7);(try clear c7);(try clear alJ);(try clear c8);(try clear jg);(try clear c9);(try clear mD);(try clear pS);(try clear pT);(try clear c13);(try clear Bk);(try clear pS);(try clear pT)
       obtain ⟨aX,jI,cx,rfl,rfl,HA,cN,aZ,HB⟩:=hrel
       have J7:=Aq HV.out aZ.out
       cases gk with
       | zero=>exact absurd HA.out (by simp [bG.l2])
       | succ k3 =>
        have H:=HA.out
        clear HA
        simp only [bG.l2] at H
        by_cases c14:cx < (l0.length:Int)
        case neg =>
         rw [if_neg c14] at H
         have kH:decide (cx < (l0.length:Int))=false:=decide_eq_false c14
         clear c14
         have H':=k0 H
         clear H
         go_wp2
         go_roundg k3
         case measure=>have:=alj.out;have:=bB.out;have:=cN.out;omega
         case rel=>exact ⟨(aX),(jI),rs,H',⟨by have:=alj.out;have:=bB.out;have:=cN.out;omega⟩,⟨aR (aZ.out)⟩,⟨bl⟩⟩
        rw [if_pos c14] at H
        have kH:=decide_eq_true c14
        clear c14
        have H':=k0 H
        clear H
        go_wp2
        go_loopg [13,14] k3 (fun kq zE G4 w'=>∃ (gH:Int) (ic:Int),zE=.int .i64 gH∧G4=.int .i64 ic∧au (bG.l3 kq l0 l1 aX false jI cx gH ic=some (r1,r2))∧au (kq≤k3)∧au (Kd.R Kd.bool 133 w' w.heap.size (fun _=>True) mg aX)∧au (Below w.heap.size w w'))
        case atStart=>exact ⟨(0),(0),rs,rs,H',⟨Nat.le_refl _⟩,⟨aR (aZ.out)⟩,⟨bl⟩⟩
        case round =>
         clear H'
         (try clear c4);(try clear eD);(try clear l7);(try clear c7);(try clear alJ);(try clear c8);(try clear jg);(try clear c9);(try clear mD);(try clear pS);(try clear pT);(try clear c13);(try clear c14);(try clear kH);(try clear Bk);(try clear pS);(try clear pT)
         obtain ⟨gH,ic,rfl,rfl,HA,fH,aZ,HB⟩:=hrel
         cases gk with
         | zero=>exact absurd HA.out (by simp [bG.l3])
         | succ k4 =>
          have H:=HA.out
          clear HA
          simp only [bG.l3] at H
          by_cases c15:ic < (l0.length:Int)
          case neg =>
           rw [if_neg c15] at H
           have jD:decide (ic < (l0.length:Int))=false:=decide_eq_false c15
           clear c15
           replace H:=iS H;obtain ⟨c26,H⟩:=H
           have vA:=decide_eq_true c26
           clear c26
           replace H:=iS H;obtain ⟨c27,H⟩:=H
           have rP:=decide_eq_true c27
           have agA:(cx < (8:Int))=True:=eq_true c27
           have agz:decide (cx < (aX.length:Int))=true:=decide_eq_true (by rw [J7];exact c27)
           clear c27
           obtain ⟨Oy,Kg⟩:∃ b_:Bool,b_=(nQ false aX cx):=⟨_,rfl⟩
           replace H:(if Oy=true then (if cx < (l1.length:Int) then (if gH > (rd l1 cx) then (bG.l2 k4 l0 l1 (aX.set (cx:Int).toNat false) false true (wrap64 (cx+1))) else (bG.l2 k4 l0 l1 aX false jI (wrap64 (cx+1)))) else (none)) else (bG.l2 k4 l0 l1 aX false jI (wrap64 (cx+1))))=some (r1,r2):=by rw [← Kg] at H;exact H
           have IV:=k0 Kg
           clear Kg
           by_cases c29:Oy=true
           case neg =>
            replace c29:=Bool.eq_false_iff.mpr c29
            subst c29
            have H1:(bG.l2 k4 l0 l1 aX false jI (wrap64 (cx+1)))=some (r1,r2):=by rw [if_neg (show ¬ (false=true) by decide)] at H;exact H
            clear H
            have H:=H1
            clear H1
            have H':=k0 H
            clear H
            have ef:0≤(cx:Int):=oD
            have dR:cx < (aX.length:Int):=oD
            have fu:=qh HV.out aZ.out cx ef dR
            (try rw [← IV.out] at fu)
            replace ef:=eq_true ef
            replace dR:=eq_true dR
            go_wp2
            go_roundg k4
            case measure=>have:=alj.out;have:=bB.out;have:=cN.out;have:=fH.out;omega
            case rel=>exact ⟨(aX),(jI),(wrap64 (cx+1)),rs,rs,H',⟨by have:=alj.out;have:=bB.out;have:=cN.out;have:=fH.out;omega⟩,⟨aR (aZ.out)⟩,⟨bl⟩⟩
           subst c29
           have H1:(if cx < (l1.length:Int) then (if gH > (rd l1 cx) then (bG.l2 k4 l0 l1 (aX.set (cx:Int).toNat false) false true (wrap64 (cx+1))) else (bG.l2 k4 l0 l1 aX false jI (wrap64 (cx+1)))) else (none))=some (r1,r2):=by rw [if_pos rfl] at H;exact H
           clear H
           have H:=H1
           clear H1
           replace H:=iS H;obtain ⟨c30,H⟩:=H
           have Jf:=decide_eq_true c30
           clear c30
           by_cases c31:gH > (rd l1 cx)
           case neg =>
            rw [if_neg c31] at H
            have oh:decide ((rd l1 cx) < gH)=false:=decide_eq_false c31
            clear c31
            have H':=k0 H
            clear H
            have ef:0≤(cx:Int):=oD
            have dR:cx < (aX.length:Int):=oD
            have fu:=qh HV.out aZ.out cx ef dR
            (try rw [← IV.out] at fu)
            replace ef:=eq_true ef
            replace dR:=eq_true dR
            have eH:0≤(cx:Int):=oD
            have ez:cx < (l1.length:Int):=oD
            obtain ⟨lZ,e109,gM⟩:=Kd.bJ eP.out cx eH ez
            cases e109
            replace gM:=hbc HB gM
            replace eH:=eq_true eH
            replace ez:=eq_true ez
            go_wp2
            go_roundg k4
            case measure=>have:=alj.out;have:=bB.out;have:=cN.out;have:=fH.out;omega
            case rel=>exact ⟨(aX),(jI),(wrap64 (cx+1)),rs,rs,H',⟨by have:=alj.out;have:=bB.out;have:=cN.out;have:=fH.out;omega⟩,⟨aR (aZ.out)⟩,⟨bl⟩⟩
           rw [if_pos c31] at H
           have oh:=decide_eq_true c31
           clear c31
           obtain ⟨tY,oz⟩:∃ y_:List Bool,y_=(aX.set (cx:Int).toNat false):=⟨_,rfl⟩
           replace H:(bG.l2 k4 l0 l1 tY false true (wrap64 (cx+1)))=some (r1,r2):=by first|(rw [oz];with_reducible exact H)|(have ax:=(Option.bind_some _ _).symm.trans H;rw [oz];with_reducible exact ax)|(have ax:=(Option.bind_some _ _).symm.trans H;with_reducible exact ax)|with_reducible exact H|(rw [oz];exact H)|exact H
           have anp:=k0 oz
           clear oz
           have H':=k0 H
           clear H
           have ef:0≤(cx:Int):=oD
           have dR:cx < (aX.length:Int):=oD
           have fu:=qh HV.out aZ.out cx ef dR
           (try rw [← IV.out] at fu)
           replace ef:=eq_true ef
           replace dR:=eq_true dR
           have eH:0≤(cx:Int):=oD
           have ez:cx < (l1.length:Int):=oD
           obtain ⟨lZ,e109,gM⟩:=Kd.bJ eP.out cx eH ez
           cases e109
           replace gM:=hbc HB gM
           replace eH:=eq_true eH
           replace ez:=eq_true ez
           have Ek:0≤(cx:Int):=oD
           have En:(cx:Int) < ((aX.length:Int):Int):=oD
           obtain ⟨FL,Yg,JD,PF,Zz,ahb,Nn⟩:=Kd.lp aZ.out (by rw [J7];decide)
           have yX:FL=gL:=by have h_:=JD.symm.trans HV.out;injection h_ with fq _ _;injection fq with fq;injection fq
           subst yX
           (first|cases JD|(injection JD with bh dm di;(first|subst bh|(injection bh with bh;subst bh));subst di;clear dm))
           have UO:=k0 PF
           have afX:=k0 Nn
           clear PF Zz Nn
           (first|simp only [add_plain] at fu|skip)
           obtain ⟨ace,ah5⟩:=Kd.jB false aZ.out (cx:Int) Ek En
           replace Ek:=eq_true Ek
           replace En:=eq_true En
           have al6:=Kd.kW aZ.out (cx:Int) false
           go_wp2_with (first|((with_reducible refine lF (t:=4) (p:=71) rfl ?_);refine lJ (t:=4) (p:=71) (v:=?afn) (w1:=(wr.setCell ⟨FL,(cx:Int).toNat,none⟩ (.bool false))) ?hg ?ho ?hn ?hr ?_;(case ho=>rfl);(case hg=>rfl);(case hn=>rfl);(case hr=>first|(go_simp;done)|(go_simp;rfl));intro tV hw;have hg:wr.grownBy tV (some FL):=(by rw [hw];exact al6.2);have ec:Kd.R Kd.bool 133 tV w.heap.size (fun _=>True) (.slice (some ⟨FL,0,none⟩) aX.length Yg) tY:=(by rw [hw,anp.out];exact al6.1);clear al6;replace aZ:=k0 (ec);replace HB:=k0 ((by rw [hw];exact dJ (HB.out) UO.out:Below w.heap.size w tV));clear hg hw ec))
           go_roundg k4
           case measure=>have:=alj.out;have:=bB.out;have:=cN.out;have:=fH.out;omega
           case rel=>exact ⟨(tY),(true),(wrap64 (cx+1)),rs,rs,H',⟨by have:=alj.out;have:=bB.out;have:=cN.out;have:=fH.out;omega⟩,⟨aR (aZ.out)⟩,⟨bl⟩⟩
          rw [if_pos c15] at H
          have jD:=decide_eq_true c15
          clear c15
          by_cases c16:cx=ic
          case neg =>
           rw [if_neg c16] at H
           have qY:(cx == ic)=false:=beq_eq_false_iff_ne.mpr c16
           have Ax:(cx != ic)=true:=bne_iff_ne.mpr c16
           replace H:=iS H;obtain ⟨c17,H⟩:=H
           have oW:=decide_eq_true c17
           clear c17
           replace H:=iS H;obtain ⟨c18,H⟩:=H
           have qZ:=decide_eq_true c18
           have agy:(ic < (8:Int))=True:=eq_true c18
           have agx:decide (ic < (aX.length:Int))=true:=decide_eq_true (by rw [J7];exact c18)
           clear c18
           obtain ⟨Ox,Kf⟩:∃ b_:Bool,b_=(nQ false aX ic):=⟨_,rfl⟩
           replace H:(if Ox=true then (bG.l3 k4 l0 l1 aX false jI cx gH (wrap64 (ic+1))) else (if 0≤cx then (if cx < (l0.length:Int) then (if ic < ((ah l0 cx).length:Int) then (bG.l3 k4 l0 l1 aX false jI cx (wrap64 (gH - (rd (ah l0 cx) ic))) (wrap64 (ic+1))) else (none)) else (none)) else (none)))=some (r1,r2):=by rw [← Kf] at H;exact H
           have NZ:=k0 Kf
           clear Kf
           by_cases c20:Ox=true
           case neg =>
            replace c20:=Bool.eq_false_iff.mpr c20
            subst c20
            have H1:(if 0≤cx then (if cx < (l0.length:Int) then (if ic < ((ah l0 cx).length:Int) then (bG.l3 k4 l0 l1 aX false jI cx (wrap64 (gH - (rd (ah l0 cx) ic))) (wrap64 (ic+1))) else (none)) else (none)) else (none))=some (r1,r2):=by rw [if_neg (show ¬ (false=true) by decide)] at H;exact H
            clear H
            have H:=H1
            clear H1
            replace H:=iS H;obtain ⟨c22,H⟩:=H
            have al9:=decide_eq_true c22
            clear c22
            replace H:=iS H;obtain ⟨c23,H⟩:=H
            have rO:=decide_eq_true c23
            clear c23
            replace H:=iS H;obtain ⟨c24,H⟩:=H
            have ur:=decide_eq_true c24
            clear c24
            have H':=k0 H
            clear H
            have alz:0≤(ic:Int):=oD
            have cV:ic < (aX.length:Int):=oD
            have dW:=qh HV.out aZ.out ic alz cV
            (try rw [← NZ.out] at dW)
            replace alz:=eq_true alz
            replace cV:=eq_true cV
            have dM:0≤(cx:Int):=oD
            have dD:cx < (l0.length:Int):=oD
            obtain ⟨gA,Hl,Cl,e106,dA,amr,aml⟩:=cX fe.out cx dM dD
            cases e106
            replace dA:=hbc HB dA
            have oO:=k0 aml
            have anL:=k0 amr
            clear aml amr
            replace dM:=eq_true dM
            replace dD:=eq_true dD
            have gi:0≤(ic:Int):=oD
            have gl:ic < ((ah l0 cx).length:Int):=oD
            obtain ⟨pH,e107,fN⟩:=Kd.bJ oO.out ic gi gl
            cases e107
            replace fN:=hbc HB fN
            replace gi:=eq_true gi
            replace gl:=eq_true gl
            go_wp2
            go_roundg k4
            case measure=>have:=alj.out;have:=bB.out;have:=cN.out;have:=fH.out;omega
            case rel=>exact ⟨(wrap64 (gH - (rd (ah l0 cx) ic))),(wrap64 (ic+1)),rs,rs,H',⟨by have:=alj.out;have:=bB.out;have:=cN.out;have:=fH.out;omega⟩,⟨aR (aZ.out)⟩,⟨bl⟩⟩
           subst c20
           have H1:(bG.l3 k4 l0 l1 aX false jI cx gH (wrap64 (ic+1)))=some (r1,r2):=by rw [if_pos rfl] at H;exact H
           clear H
           have H:=H1
           clear H1
           have H':=k0 H
           clear H
           have alz:0≤(ic:Int):=oD
           have cV:ic < (aX.length:Int):=oD
           have dW:=qh HV.out aZ.out ic alz cV
           (try rw [← NZ.out] at dW)
           replace alz:=eq_true alz
           replace cV:=eq_true cV
           go_wp2
           go_roundg k4
           case measure=>have:=alj.out;have:=bB.out;have:=cN.out;have:=fH.out;omega
           case rel=>exact ⟨(gH),(wrap64 (ic+1)),rs,rs,H',⟨by have:=alj.out;have:=bB.out;have:=cN.out;have:=fH.out;omega⟩,⟨aR (aZ.out)⟩,⟨bl⟩⟩
          rw [if_pos c16] at H
          have qY:(cx == ic)=true:=beq_iff_eq.mpr c16
          have Ax:(cx != ic)=false:=bne_eq_false_iff_eq.mpr c16
          clear c16
          have H':=k0 H
          clear H
          go_wp2
          go_roundg k4
          case measure=>have:=alj.out;have:=bB.out;have:=cN.out;have:=fH.out;omega
          case rel=>exact ⟨(gH),(wrap64 (ic+1)),rs,rs,H',⟨by have:=alj.out;have:=bB.out;have:=cN.out;have:=fH.out;omega⟩,⟨aR (aZ.out)⟩,⟨bl⟩⟩
   rw [if_pos c7] at H
   have alJ:=decide_eq_true c7
   clear c7
   replace H:=iS H;obtain ⟨c8,H⟩:=H
   have jg:=decide_eq_true c8
   clear c8
   replace H:=iS H;obtain ⟨c9,H⟩:=H
   have mD:=decide_eq_true c9
   have c9P:(eJ < (8:Int))=True:=eq_true c9
   have c9L:decide (eJ < (bg.length:Int))=true:=decide_eq_true (by rw [P5];exact c9)
   clear c9
   obtain ⟨nW,jo⟩:∃ y_:List Bool,y_=(bg.set (eJ:Int).toNat (eJ != a2)):=⟨_,rfl⟩
   replace H:(bG.l0 k1 l0 l1 a2 nW false (wrap64 (eJ+1)))=some (r1,r2):=by first|(rw [jo];with_reducible exact H)|(have ax:=(Option.bind_some _ _).symm.trans H;rw [jo];with_reducible exact ax)|(have ax:=(Option.bind_some _ _).symm.trans H;with_reducible exact ax)|with_reducible exact H|(rw [jo];exact H)|exact H
   have uj:=k0 jo
   clear jo
   have H':=k0 H
   clear H
   have pS:0≤(eJ:Int):=oD
   have pT:(eJ:Int) < ((bg.length:Int):Int):=oD
   obtain ⟨sQ,pK,ql,CG,JX,XZ,BW⟩:=Kd.lp aZ.out (by rw [P5];decide)
   have yX:sQ=gL:=by have h_:=ql.symm.trans HV.out;injection h_ with fq _ _;injection fq with fq;injection fq
   subst yX
   (first|cases ql|(injection ql with bh dm di;(first|subst bh|(injection bh with bh;subst bh));subst di;clear dm))
   have HF:=k0 CG
   have UT:=k0 BW
   clear CG JX BW
   obtain ⟨Bk,QL⟩:=Kd.jB false aZ.out (eJ:Int) pS pT
   replace pS:=eq_true pS
   replace pT:=eq_true pT
   have sx:=Kd.kW aZ.out (eJ:Int) (eJ != a2)
   go_wp2_with (first|((with_reducible refine lF (t:=4) (p:=27) rfl ?_);refine lJ (t:=4) (p:=27) (v:=?afl) (w1:=(wr.setCell ⟨sQ,(eJ:Int).toNat,none⟩ (.bool (eJ != a2)))) ?hg ?ho ?hn ?hr ?_;(case ho=>rfl);(case hg=>rfl);(case hn=>rfl);(case hr=>first|(go_simp;done)|(go_simp;rfl));intro jt hw;have hg:wr.grownBy jt (some sQ):=(by rw [hw];exact sx.2);have ec:Kd.R Kd.bool 133 jt w.heap.size (fun _=>True) (.slice (some ⟨sQ,0,none⟩) bg.length pK) nW:=(by rw [hw,uj.out];exact sx.1);clear sx;replace aZ:=k0 (ec);replace HB:=k0 ((by rw [hw];exact dJ (HB.out) HF.out:Below w.heap.size w jt));clear hg hw ec))
   go_roundg k1
   case measure=>have:=alj.out;omega
   case rel=>exact ⟨(nW),(wrap64 (eJ+1)),rs,H',⟨by have:=alj.out;omega⟩,⟨aR (aZ.out)⟩,⟨bl⟩⟩
def bG.f (k:Nat) (l0:List (List Int)) (l1:List Int) (a2:Int):Option Bool:=(bG.fA k l0 l1 a2).map Prod.snd
theorem bG.mono:∀ a0 a1 a2 k,aj (bG.f k a0 a1 a2) (bG.f (k+1) a0 a1 a2):=by
 intro a0 a1 a2 k r h
 unfold bG.f at h ⊢
 obtain ⟨x,hx,rfl⟩:=Option.map_eq_some_iff.1 h
 rw [bG.Br _ _ _ _ _ hx];rfl
set_option maxHeartbeats 8000000 in
set_option maxRecDepth 100000 in
theorem bG.calls (k : Nat) (A0 : Option Addr) (c0 : Nat) (l0 : List (List Int)) (A1 : Option Addr) (c1 : Nat) (l1 : List Int) (a2 : Int) (r : Bool) (w : World) (cS : Kd.C (Kd.slice 2 (Kd.int .i64)) w A0 l0.length l0) (hc0 : l0.length ≤ c0) (c_ : Kd.C (Kd.int .i64) w A1 l1.length l1) (eY : l1.length ≤ c1) (h : bG.f k l0 l1 a2 = some r) :
  Calls Try.prog 176 #[.slice A0 l0.length c0,.slice A1 l1.length c1,.int .i64 a2] w fun e w'=>(∃ b0 b1 b2 b3 b4 b5 b6 b7:Bool,e=.returned (.tuple #[.agg #[.bool b0,.bool b1,.bool b2,.bool b3,.bool b4,.bool b5,.bool b6,.bool b7],.bool r]))∧Below w.heap.size w w':=by
 unfold bG.f at h
 obtain ⟨⟨xs,b⟩,hx,rfl⟩:=Option.map_eq_some_iff.1 h
 exact (bG.yu k A0 c0 l0 A1 c1 l1 a2 xs b w cS hc0 c_ eY hx).mono fun e w' ⟨⟨he,h8⟩,hb⟩=>by
  obtain ⟨b0,b1,b2,b3,b4,b5,b6,b7,e8⟩:=O3 xs h8
  exact ⟨⟨b0,b1,b2,b3,b4,b5,b6,b7,by rw [he,e8];rfl⟩,hb⟩
end Go.Proofs.Ytoebojnhchocaaa.D
/- Set with little white space, by a program. -/
