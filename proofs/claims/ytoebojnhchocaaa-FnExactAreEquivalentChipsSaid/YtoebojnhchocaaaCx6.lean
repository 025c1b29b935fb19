/- The functions that one law reaches, each as a Lean function, and that Go's call comes to what it says. Condition of each: that the Lean function answers (is not none). -/
import Derived.Test.YtoebojnhchocaaaCx0
import Derived.Test.YtoebojnhchocaaaCx4
namespace Go.Proofs.Ytoebojnhchocaaa.C
open Go.RowKit Go.Proofs.bI.en Go.Proofs.bI.je Go.Proofs.bI.jC
attribute [local go_sem] max2_int min2_int max_two min_two max_three min_three max_four min_four   -- for this text's walks alone
set_option linter.unusedVariables false
set_option linter.unusedSimpArgs false
/-! ### F175: function 175 -/
mutual
def cV.l0 : Nat → List (List Int) → List Bool → Int → List Int → Int → Option (List Int)
 | 0,_,_,_,_,_=>none
 | k+1,x0,x2,x3,x9,fc=>if fc < (x0.length:Int) then (cV.l1 k x0 x2 x3 x9 fc 0) else (some x9)
def cV.l1 : Nat → List (List Int) → List Bool → Int → List Int → Int → Int → Option (List Int)
 | 0,_,_,_,_,_,_=>none
 | k+1,x0,x2,x3,x9,fc,fe=>if fe < (x0.length:Int) then (if 0≤fc then (if fc < (8:Int) then (if nP false x2 fc=true then (if 0≤fe then (if fe < (x9.length:Int) then (if fc < (x0.length:Int) then (if fe < ((ah x0 fc).length:Int) then (cV.l1 k x0 x2 x3 (x9.set (fe:Int).toNat (wrap64 ((rd x9 fe) - (wrap64 (x3 * (rd (ah x0 fc) fe)))))) fc (wrap64 (fe+1))) else (none)) else (none)) else (none)) else (none)) else (cV.l0 k x0 x2 x3 x9 (wrap64 (fc+1)))) else (none)) else (none)) else (cV.l0 k x0 x2 x3 x9 (wrap64 (fc+1)))
end
def cV.fA (k:Nat) (l0:List (List Int)) (l1:List Int) (l2:List Bool) (a3:Int):Option (List Int):=(uJ.f l1).bind fun t101=>(cV.l0 k l0 l2 a3 t101 0)
theorem cV.b8 : ∀ k, (∀ y0 y1 y2 y3 y4, aj (cV.l0 k y0 y1 y2 y3 y4) (cV.l0 (k + 1) y0 y1 y2 y3 y4)) ∧ (∀ y0 y1 y2 y3 y4 y5, aj (cV.l1 k y0 y1 y2 y3 y4 y5) (cV.l1 (k + 1) y0 y1 y2 y3 y4 y5))
 | 0=>⟨fun _ _ _ _ _ r h=>by simp [cV.l0] at h,fun _ _ _ _ _ _ r h=>by simp [cV.l1] at h⟩
 | k+1=>by
  obtain ⟨akk,ih1⟩:=cV.b8 k
  refine ⟨?_, ?_⟩ <;> intros <;> (first | unfold cV.l0 | unfold cV.l1) <;> repeat' first
   | (with_reducible first|exact akk _ _ _ _ _|exact ih1 _ _ _ _ _ _|exact aj.refl _|exact aj.none _|refine aj.ite ?_ ?_|refine aj.bind ?_ (fun _=>?_))
   | exact akk _ _ _ _ _|exact ih1 _ _ _ _ _ _|exact aj.none _|refine aj.ite ?_ ?_|refine aj.bind ?_ (fun _=>?_)
theorem cV.AL:∀ a0 a1 a2 a3 k,aj (cV.fA k a0 a1 a2 a3) (cV.fA (k+1) a0 a1 a2 a3):=by
 intro a0 a1 a2 a3 k
 obtain ⟨akk,ih1⟩:=cV.b8 k
 unfold cV.fA
 repeat' first
  | (with_reducible first|exact akk _ _ _ _ _|exact ih1 _ _ _ _ _ _|exact aj.refl _|exact aj.none _|refine aj.ite ?_ ?_|refine aj.bind ?_ (fun _=>?_))
  | exact akk _ _ _ _ _|exact ih1 _ _ _ _ _ _|exact aj.none _|refine aj.ite ?_ ?_|refine aj.bind ?_ (fun _=>?_)
def cV.T8:Bool × List (List Nat × List Nat):=(true,[([],[]),([],[]),([],[]),([],[]),([2,3],[2,3]),([4],[4]),([],[]),([],[]),([],[]),([7,8],[7,8]),([9],[9]),([],[]),([10,11],[10,11]),([12],[12]),([6,13],[6,13]),([5,14],[5,14]),([0,1,0,1,2,3,4,5,6,7,8,9,10,11,12,13,14,15],[0,1]),([16,15,0,1,2,3,4,5,6,7,8,9,10,11,12,13,14,15],[15,16])])
def cV.B8:List Nat:=[0,0,0,0,12,28,0,0,0,384,896,0,3968,8064,16320,32764,65535,131071]
theorem cV.DJ:gF .any (opsOf Try.f175 8)=cV.T8:=by kernel_rfl
theorem cV.Bv:akZ cV.T8.2 cV.B8=true:=by kernel_rfl
set_option maxHeartbeats 8000000 in
set_option maxRecDepth 100000 in
theorem cV.alQ (k : Nat) (A0 : Option Addr) (c0 : Nat) (l0 : List (List Int)) (A1 : Option Addr) (c1 : Nat) (l1 : List Int) (l2 : List Bool) (a3 : Int) (r : List Int) (W0 : World) (dB : Kd.C (Kd.slice 2 (Kd.int .i64)) W0 A0 l0.length l0) (hc0 : l0.length ≤ c0) (cQ : Kd.C (Kd.int .i64) W0 A1 l1.length l1) (ef : l1.length ≤ c1) (Fc : l2.length = 8) (h : cV.fA k l0 l1 l2 a3 = some r) :
  Calls Try.prog 175 #[.slice A0 l0.length c0,.slice A1 l1.length c1,.agg (l2.map Value.bool).toArray,.int .i64 a3] W0 fun e w'=>∃ dK:Value,e=.returned (dK)∧Kd.R (Kd.int .i64) 2 w' W0.heap.size (fun _=>True) dK r∧Below W0.heap.size W0 w':=by
 have fj:=k0 dB
 have ki:=k0 hc0
 clear dB hc0
 have ek:=k0 cQ
 have jZ:=k0 ef
 clear cQ ef
 have H:((uJ.f l1).bind fun t101=>(cV.l0 k l0 l2 a3 t101 0))=some r:=h
 clear h
 replace H:=Option.bind_eq_some_iff.mp H
 obtain ⟨t101,alb,H⟩:=H
 replace H:(cV.l0 k l0 l2 a3 t101 0)=some r:=H
 have A5:=k0 alb
 clear alb
 have H':=k0 H
 clear H
 go_enter Try.func175,Try.ntmps175
 go_wp2_with (first|((with_reducible refine cj (N:=6) rfl ?_);refine dJ ?hg (N:=6) ?hd (cs:=(l2.map Value.bool).toArray) (t:=133) ?hr ?_;(case hd=>rfl);(case hg=>rfl);(case hr=>first|(go_simp;done)|(go_simp;rfl));intro gb hg w aK hb;have HW:=k0 hb;have L3:=k0 aK;clear hb aK hg;replace fj:=k0 (Kd.bA fj.out HW.out);replace ek:=k0 (Kd.bA ek.out HW.out);have HB:=k0 (Below.refl w.heap.size w))|((with_reducible refine cZ (f:=173) rfl ?_);refine c_ (some 13) rfl rfl Try.func173 (by kernel_rfl) rfl #[.slice A1 l1.length c1] rfl gm ?_;(with_reducible refine (uJ.calls _ _ l1 t101 _ ?akn ?aT A5.out).mono ?_);(case akn=>exact aC ek.out);(case aT=>exact jZ.out);rintro e w6 ⟨l6,rfl,ake,hb⟩;refine ⟨_,rfl,?_⟩;have kN:=k0 (Kd.dL ake (aU bl));replace HB:=k0 (aI bl hb);(try clear hb);(try clear ake)))
 go_loopg [10] k (fun kq v10 w'=>∃ (Gp:List Int) (eI:Int),v10=.int .i64 eI∧au (cV.l0 kq l0 l2 a3 Gp eI=some r)∧au (kq≤k)∧au (Kd.R (Kd.int .i64) 2 w' w.heap.size (fun _=>True) l6 Gp)∧au (Below w.heap.size w w'))
 case atStart=>exact ⟨(t101),(0),rs,H',⟨Nat.le_refl _⟩,⟨aR (kN.out)⟩,⟨bl⟩⟩
 case round =>
  clear H'
  obtain ⟨Gp,eI,rfl,HA,akl,qH,HB⟩:=hrel
  cases gk with
  | zero=>exact absurd HA.out (by simp [cV.l0])
  | succ k1 =>
   have H:=HA.out
   clear HA
   simp only [cV.l0] at H
   by_cases c7:eI < (l0.length:Int)
   case neg =>
    rw [if_neg c7] at H
    have gK:decide (eI < (l0.length:Int))=false:=decide_eq_false c7
    clear c7
    obtain rfl:=Option.some.inj H
    go_wp2
    go_ret
    exact ⟨_,by first|rfl|(simp [bq,bt]<;>rfl)|(simp [*,bq,bt]<;>rfl),by (with_reducible repeat (first|apply Kd.bN|apply Kd.bQ|apply Kd.bn));exact Kd.dL qH.out (aU HW.out),aI HW.out bl⟩
   rw [if_pos c7] at H
   have gK:=decide_eq_true c7
   clear c7
   have H':=k0 H
   clear H
   go_wp2
   go_loopg [11] k1 (fun kq v11 w'=>∃ (ny:List Int) (fG:Int),v11=.int .i64 fG∧au (cV.l1 kq l0 l2 a3 ny eI fG=some r)∧au (kq≤k1)∧au (Kd.R (Kd.int .i64) 2 w' w.heap.size (fun _=>True) l6 ny)∧au (Below w.heap.size w w'))
   case atStart=>exact ⟨(Gp),(0),rs,H',⟨Nat.le_refl _⟩,⟨aR (qH.out)⟩,⟨bl⟩⟩
   case round =>
    clear H'
    (try clear c7);(try clear gK)
    obtain ⟨ny,fG,rfl,HA,bz,qH,HB⟩:=hrel
    cases gk with
    | zero=>exact absurd HA.out (by simp [cV.l1])
    | succ k2 =>
     have H:=HA.out
     clear HA
     simp only [cV.l1] at H
     by_cases c8:fG < (l0.length:Int)
     case neg =>
      rw [if_neg c8] at H
      have iX:decide (fG < (l0.length:Int))=false:=decide_eq_false c8
      clear c8
      have H':=k0 H
      clear H
      go_wp2
      go_roundg k2
      case measure=>have:=akl.out;have:=bz.out;omega
      case rel=>exact ⟨(ny),(wrap64 (eI+1)),rs,H',⟨by have:=akl.out;have:=bz.out;omega⟩,⟨aR (qH.out)⟩,⟨bl⟩⟩
     rw [if_pos c8] at H
     have iX:=decide_eq_true c8
     clear c8
     replace H:=iS H;obtain ⟨c9,H⟩:=H
     have k8:=decide_eq_true c9
     clear c9
     replace H:=iS H;obtain ⟨c10,H⟩:=H
     have lB:=decide_eq_true c10
     clear c10
     obtain ⟨Np,Jc⟩:∃ b_:Bool,b_=(nP false l2 eI):=⟨_,rfl⟩
     replace H:(if Np=true then (if 0≤fG then (if fG < (ny.length:Int) then (if eI < (l0.length:Int) then (if fG < ((ah l0 eI).length:Int) then (cV.l1 k2 l0 l2 a3 (ny.set (fG:Int).toNat (wrap64 ((rd ny fG) - (wrap64 (a3 * (rd (ah l0 eI) fG)))))) eI (wrap64 (fG+1))) else (none)) else (none)) else (none)) else (none)) else (cV.l0 k2 l0 l2 a3 ny (wrap64 (eI+1))))=some r:=by rw [← Jc] at H;exact H
     have MV:=k0 Jc
     clear Jc
     by_cases c12:Np=true
     case neg =>
      replace c12:=Bool.eq_false_iff.mpr c12
      subst c12
      have H1:(cV.l0 k2 l0 l2 a3 ny (wrap64 (eI+1)))=some r:=by rw [if_neg (show ¬ (false=true) by decide)] at H;exact H
      clear H
      have H:=H1
      clear H1
      have H':=k0 H
      clear H
      have cS:0≤(eI:Int):=oD
      have cT:eI < (8:Int):=oD
      have cM:=Nf L3.out eI cS (by rw [Fc];exact cT)
      (try rw [← MV.out] at cM)
      replace cM:=hbc HB cM
      replace cS:=eq_true cS
      replace cT:=eq_true cT
      go_wp2
      go_roundg k2
      case measure=>have:=akl.out;have:=bz.out;omega
      case rel=>exact ⟨(ny),(wrap64 (eI+1)),rs,H',⟨by have:=akl.out;have:=bz.out;omega⟩,⟨aR (qH.out)⟩,⟨bl⟩⟩
     subst c12
     have H1:(if 0≤fG then (if fG < (ny.length:Int) then (if eI < (l0.length:Int) then (if fG < ((ah l0 eI).length:Int) then (cV.l1 k2 l0 l2 a3 (ny.set (fG:Int).toNat (wrap64 ((rd ny fG) - (wrap64 (a3 * (rd (ah l0 eI) fG)))))) eI (wrap64 (fG+1))) else (none)) else (none)) else (none)) else (none))=some r:=by rw [if_pos rfl] at H;exact H
     clear H
     have H:=H1
     clear H1
     replace H:=iS H;obtain ⟨c13,H⟩:=H
     have kQ:=decide_eq_true c13
     clear c13
     replace H:=iS H;obtain ⟨c14,H⟩:=H
     have ku:=decide_eq_true c14
     clear c14
     replace H:=iS H;obtain ⟨c15,H⟩:=H
     have kR:=decide_eq_true c15
     clear c15
     replace H:=iS H;obtain ⟨c16,H⟩:=H
     have qN:=decide_eq_true c16
     clear c16
     obtain ⟨mO,akO⟩:∃ y_:List Int,y_=(ny.set (fG:Int).toNat (wrap64 ((rd ny fG) - (wrap64 (a3 * (rd (ah l0 eI) fG)))))):=⟨_,rfl⟩
     replace H:(cV.l1 k2 l0 l2 a3 mO eI (wrap64 (fG+1)))=some r:=by first|(rw [akO];with_reducible exact H)|(have ay:=(Option.bind_some _ _).symm.trans H;rw [akO];with_reducible exact ay)|(have ay:=(Option.bind_some _ _).symm.trans H;with_reducible exact ay)|with_reducible exact H|(rw [akO];exact H)|exact H
     have alf:=k0 akO
     clear akO
     have H':=k0 H
     clear H
     have cS:0≤(eI:Int):=oD
     have cT:eI < (8:Int):=oD
     have cM:=Nf L3.out eI cS (by rw [Fc];exact cT)
     (try rw [← MV.out] at cM)
     replace cM:=hbc HB cM
     replace cS:=eq_true cS
     replace cT:=eq_true cT
     try go_wp2
     replace qH:=k0 (Kd.bn qH.out);replace HB:=k0 (cP HB.out)
     obtain ⟨alA,qP,vp⟩:=Kd.eK qH.out
     (first|subst vp|(injection vp with akL k9 gU;have akW:=akL.symm;have akX:=gU.symm;clear akL k9 gU;subst akW;subst akX))
     have cX:0≤(fG:Int):=oD
     have cU:fG < (ny.length:Int):=oD
     obtain ⟨kr,e105,dY⟩:=Kd.bH (Kd.bu qH.out).2.2 fG cX cU
     cases e105
     replace cX:=eq_true cX
     replace cU:=eq_true cU
     have dN:0≤(eI:Int):=oD
     have dH:eI < (l0.length:Int):=oD
     obtain ⟨gB,Gs,ami,e106,dF,ali,sP⟩:=cW fj.out eI dN dH
     have aln:=dF
     cases e106
     replace dF:=hbc HB dF
     have oH:=k0 sP
     have GN:=k0 ali
     clear sP ali
     replace dN:=eq_true dN
     replace dH:=eq_true dH
     have gh:0≤(fG:Int):=oD
     have gj:fG < ((ah l0 eI).length:Int):=oD
     obtain ⟨o9,e107,fR⟩:=Kd.bH oH.out fG gh gj
     have alo:=fR
     cases e107
     replace fR:=hbc HB fR
     replace gh:=eq_true gh
     replace gj:=eq_true gj
     have KD:0≤(fG:Int):=oD
     have KT:(fG:Int) < ((ny.length:Int):Int):=oD
     obtain ⟨YX,agA,N0,Om,YM,agr,Mi⟩:=Kd.akT qH.out (by omega)
     (first|cases N0|(injection N0 with bf dn dm;(first|subst bf|(injection bf with bf;subst bf));subst dm;clear dn))
     have TK:=k0 Om
     have TU:=k0 Mi
     clear Om YM Mi
     (first|simp only [add_plain] at dY|skip)
     obtain ⟨abz,aaA⟩:=Kd.jD 0 qH.out (fG:Int) KD KT
     replace KD:=eq_true KD
     replace KT:=eq_true KT
     have G4:=Kd.al2 qH.out (fG:Int) (wrap64 ((rd ny fG) - (wrap64 (a3 * (rd (ah l0 eI) fG)))))
     rw [← alf.out] at G4
     have MD:=k0 G4
     clear G4
     refine lJ (n:=18) (S:=fun w'=>w'.cell? ⟨YX,(fG).toNat,none⟩=some (.int .i64 (rd ny fG))∧w'.cell? (gB.add (eI).toNat)=some (.slice (some o9) (ah l0 eI).length ami)∧w'.cell? (o9.add (fG).toNat)=some (.int .i64 (rd (ah l0 eI) fG))) (ds:=[17]) (ba 18 0) (by kernel_rfl) rfl rfl ⟨dY,(hbc HB aln),(hbc HB alo)⟩ (fun hHeld=>?_);refine qu cV.DJ cV.Bv (fun aA dh=>?_)
     generalize wr.drew=zq at qH HB TU MD oH aaA dY dF fR abz hHeld ⊢
     refine pu 0 (some 31) (ba 18 1) aA (h:=?_)
     refine pu 1 (some 32) (ba 18 3) aA (h:=?_)
     refine pu 2 (some 33) (ba 18 7) aA (h:=?_)
     refine pu 3 (some 34) (ba 18 15) aA (h:=?_)
     refine pu 4 (some 35) (ba 18 31) aA (h:=?_)
     refine pu 6 (some 37) (ba 18 95) aA (h:=?_)
     refine pu 7 (some 38) (ba 18 223) aA (h:=?_)
     refine pu 8 (some 39) (ba 18 479) aA (h:=?_)
     refine pu 9 (some 40) (ba 18 991) aA (h:=?_)
     refine pu 11 (some 42) (ba 18 3039) aA (h:=?_)
     refine ta 5 (some 36) (ba 18 3071) aA dh hHeld (hy:=Or.inl ⟨by rfl,by rintro w' ⟨s0,s1,s2⟩;go_simp;with_reducible rfl⟩) (h:=?_)
     refine ta 10 (some 41) (ba 18 4095) aA dh hHeld (hy:=Or.inl ⟨by rfl,by rintro w' ⟨s0,s1,s2⟩;go_simp;with_reducible rfl⟩) (h:=?_)
     refine pu 12 (some 43) (ba 18 8191) aA (h:=?_)
     refine ta 13 (some 44) (ba 18 16383) aA dh hHeld (hy:=Or.inl ⟨by rfl,by rintro w' ⟨s0,s1,s2⟩;go_simp;with_reducible rfl⟩) (h:=?_)
     refine pu 14 (some 45) (ba 18 32767) aA (h:=?_)
     refine pu 15 (some 46) (ba 18 65535) aA (h:=?_)
     refine pu 16 (some 47) (ba 18 131071) aA (h:=?_)
     refine rU (i:=17) (N:=none) (ba 18 262143) rfl rfl (kF aA.out (by kernel_rfl)) (by decide) (fun K hK=>?_)
     refine pP (w1:=?_) (by rfl) rfl ?_ ?_
     rotate_left;· go_simp;rfl
     refine hK.out _ _ ?_
     clear hK K
     refine lC (p_ aA.out (by kernel_rfl)) ?_
     try go_wp2
     go_roundg k2
     case measure=>have:=akl.out;have:=bz.out;omega
     case rel=>exact ⟨(mO),(wrap64 (fG+1)),rs,H',⟨by have:=akl.out;have:=bz.out;omega⟩,⟨aR (MD.out)⟩,⟨by repeat (first|(with_reducible first|exact HB.out|apply dA|apply akz|apply cP|refine dM ?_ TK.out)|exact HB.out)⟩⟩
def cV.f (k:Nat) (l0:List (List Int)) (l1:List Int) (a2 a3:Int):Option (List Int):=cV.fA k l0 l1 ((List.replicate 8 false).set a2.toNat true) a3
theorem cV.mono:∀ a0 a1 a2 a3 k,aj (cV.f k a0 a1 a2 a3) (cV.f (k+1) a0 a1 a2 a3):=fun a0 a1 _ a3 k=>cV.AL a0 a1 _ a3 k
set_option maxHeartbeats 8000000 in
set_option maxRecDepth 100000 in
theorem cV.calls (k : Nat) (A0 : Option Addr) (c0 : Nat) (l0 : List (List Int)) (A1 : Option Addr) (c1 : Nat) (l1 : List Int) (a2 : Int) (a3 : Int) (r : List Int) (w : World) (dB : Kd.C (Kd.slice 2 (Kd.int .i64)) w A0 l0.length l0) (hc0 : l0.length ≤ c0) (cQ : Kd.C (Kd.int .i64) w A1 l1.length l1) (ef : l1.length ≤ c1) (h : cV.f k l0 l1 a2 a3 = some r) :
  Calls Try.prog 175 #[.slice A0 l0.length c0,.slice A1 l1.length c1,.agg (((List.replicate 8 false).set a2.toNat true).map Value.bool).toArray,.int .i64 a3] w fun e w'=>∃ dK:Value,e=.returned (dK)∧Kd.R (Kd.int .i64) 2 w' w.heap.size (fun _=>True) dK r∧Below w.heap.size w w':=by
 exact cV.alQ k A0 c0 l0 A1 c1 l1 _ a3 r w dB hc0 cQ ef (by simp) h
end Go.Proofs.Ytoebojnhchocaaa.C
/- Set with little white space, by a program. -/
