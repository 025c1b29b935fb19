/- Go's calls come to what the Lean functions say. Condition of each: that the Lean function answers. -/
import Derived.Test.YtapnggjaeehpdaaBx0
import Derived.Test.YtapnggjaeehpdaaBx1
import Derived.Test.YtapnggjaeehpdaaBx2
namespace Go.Proofs.Ytapnggjaeehpdaa.B
open Go.RowKit Go.Proofs.bz.dI Go.Proofs.bz.iY Go.Proofs.bz.jn
attribute [local go_sem] max2_int min2_int max_two min_two max_three min_three max_four min_four
set_option linter.unusedVariables false
set_option linter.unusedSimpArgs false
set_option maxHeartbeats 8000000
set_option maxRecDepth 100000
/-! ### F96: function 96 -/
def atU.l0 : Nat → List Int → Int → Int → Int → List (List Int) → Option (Int × (List (List Int)) × Int × Int)
 | 0,_,_,_,_,_=>none
 | k+1,fF,jx,jy,cn,cF=>if (cF.length:Int)≤10 then (if cF.length < 5864062014805 then (atU.l0 k fF jx jy cn (cF ++ [(([0,0]:List Int))])) else (none)) else (some (cn,cF,jx,jy))
def atU.f (k:Nat) (asZ:List Int) (bB:Int) (ate:Int) (aE:Int) (az:List (List Int)):Option (Int × (List (List Int)) × Int × Int):=(cw.f asZ bB ate 40).bind fun mF=>(if mF.1=0 then ((gD.f asZ mF.2.1 mF.2.2 (([0,9,wrap64 (aE - 1)]:List Int))).bind fun lY=>(some (lY.1,az,lY.2.1,lY.2.2))) else (if mF.1=1 then ((jm.f k aE az).bind fun s_=>(if s_.2.length < 5864062014805 then (some (s_.1,(s_.2 ++ [(([0,s_.1]:List Int))]),mF.2.1,mF.2.2)) else (none))) else (if mF.1=2 then ((jm.f k aE az).bind fun yX=>(if (yX.2.length:Int) > 0 then ((cw.f asZ mF.2.1 mF.2.2 (yX.2.length:Int)).bind fun Cb=>(if 0≤Cb.1 then (if Cb.1 < (yX.2.length:Int) then (if (ai yX.2 Cb.1).length < 17592186044416 then (some (yX.1,(yX.2.set (Cb.1:Int).toNat ((ai yX.2 Cb.1) ++ [0])),Cb.2.1,Cb.2.2)) else (none)) else (none)) else (none))) else (some (yX.1,yX.2,mF.2.1,mF.2.2)))) else (if mF.1=3 then ((jm.f k aE az).bind fun avw=>(atU.l0 k asZ mF.2.1 mF.2.2 avw.1 avw.2)) else (some (aE,az,mF.2.1,mF.2.2))))))
def atU.TS:Bool × List (List Nat × List Nat):=(true,[([],[]),([0],[0]),([],[]),([],[]),([3],[3]),([],[]),([4,5],[4,5]),([6],[6]),([],[]),([7,8],[7,8]),([1,2,0,1,2,3,4,5,6,7,8,9],[1,2]),([10,9,9,0,1,2,3,4,5,6,7,8,9],[9,10])])
def atU.B12:List Nat:=[0,1,0,0,8,0,56,120,0,504,1023,2047]
theorem atU.aky:eB .any (opsOf Try.f96 12)=atU.TS:=by kernel_rfl
theorem atU.ads:ie atU.TS.2 atU.B12=true:=by kernel_rfl
theorem atU.calls (k : Nat) (g : Nat) (asZ : List Int) (bB : Int) (ate : Int) (aE : Int) (ur : Nat → Prop) (atb : Option Addr) (atc : Nat) (az : List (List Int)) (r1 : Int) (r2 : List (List Int)) (r3 : Int) (r4 : Int) (w0 w : World) (hI : ag w0 w g asZ bB ate) (hB : Below w0.heap.size w0 w) (ahj : Kd.V (Kd.slice 2 (Kd.int .i64)) 29 w w.heap.size (fun k_ => ur k_ ∧ k_ ≠ g) (.slice atb az.length atc) az) (h : atU.f k asZ bB ate aE az = some (r1, r2, r3, r4)) :
  Calls Try.prog 96 #[.pointer (some ⟨g,0,none⟩),.agg #[.int .i64 aE,.slice atb az.length atc]] w fun e w'=>∃ nP:Value,e=.returned (.agg #[.int .i64 r1,nP])∧Kd.V (Kd.slice 2 (Kd.int .i64)) 29 w' w.heap.size (fun k_=>(ur k_∨w.heap.size≤k_)) nP r2∧ag w0 w' g asZ r3 r4∧Below w0.heap.size w0 w'∧bx w w' g none:=by
 have gV:=Try.underlying26
 have cT:=k0 (show Kd.V (Kd.slice 2 (Kd.int .i64)) 29 w w.heap.size (fun k_=>(ur k_∨w.heap.size≤k_)∧k_ ≠ g) (.slice atb az.length atc) az from Kd.bf ahj (fun k_ hk=>⟨.inl hk.1,hk.2⟩))
 have ah:=k0 hI
 have HK:=k0 (bx.refl w g none)
 have HL:=k0 hB.size
 clear hI
 have jg:=k0 hB.size
 have HB:=k0 hB
 clear hB
 unfold atU.f at h
 have H:=h
 clear h
 replace H:=bS H;obtain ⟨⟨t103,t104,t105⟩,A3,H⟩:=H
 dsimp only at H
 replace H:=iE H;obtain ⟨c4,gI,au4,H⟩|⟨gI,au4,H⟩:=H
 case inl =>
  replace H:=iE H;obtain ⟨c19,auB,NX,H⟩|⟨auB,NX,H⟩:=H
  case inl =>
   replace H:=iE H;obtain ⟨c39,vT,aee,H⟩|⟨vT,aee,H⟩:=H
   case inl =>
    replace H:=iE H;obtain ⟨c78,N8,N9,H⟩|⟨N8,N9,H⟩:=H
    case inl =>
     simp only [Option.some.injEq,Prod.mk.injEq] at H
     obtain ⟨rfl,rfl,rfl,rfl⟩:=H
     go_enter Try.func96,Try.ntmps96
     go_wp2_with (first|(refine aX (N:=3) rfl ?_;refine eJ 3 #[.int .i64 aE,.slice atb az.length atc] 26 ?_;intro ay hg asS aY hb;replace cT:=atZ cT hg hb;replace HB:=k0 (cu (aG (ag.ge ah.z) HB.z) hb);have aa:=k0 aY;have bn:=gW hg (b_ (aK HK.z));have cG:=k0 (Nat.le_trans jg.z bn.z);replace HK:=eC HK hb;have vH:=k0 ((by rw [hg];exact Nat.ne_of_lt (ag.lt (show ag w0 _ g asZ bB ate from aA ah.z)):g ≠ ay));have cy:=k0 ((by rw [hg];exact Nat.ne_of_gt (ag.lt (show ag w0 _ g asZ bB ate from aA ah.z)):ay ≠ g));replace ah:=k0 (ag.below (aA ah.z) hb);clear hb aY hg)|(refine aX (N:=4) rfl ?_;refine eJ 4 #[.int .i64 0,.slice none 0 0] 26 ?_;intro cY hg asT aY hb;replace cT:=atZ cT hg hb;replace HB:=k0 (cu (aG (ag.ge ah.z) HB.z) hb);have as5:=k0 aY;have j9:=gW hg (b_ (aK HK.z));have q6:=k0 (Nat.le_trans jg.z j9.z);replace HK:=eC HK hb;have gh:=nL hg aa;have nx:=nG gh;replace aa:=kB aa hb;have FM:=k0 ((by rw [hg];exact Nat.ne_of_lt (ag.lt (show ag w0 _ g asZ bB ate from aA ah.z)):g ≠ cY));have od:=k0 ((by rw [hg];exact Nat.ne_of_gt (ag.lt (show ag w0 _ g asZ bB ate from aA ah.z)):cY ≠ g));replace ah:=k0 (ag.below (aA ah.z) hb);clear hb aY hg)|(refine aT (f:=49) rfl ?_;refine gC (some 8) Try.func49 #[.pointer (some ⟨g,0,none⟩),.int .i64 40] ?_;(with_reducible refine (cw.calls g asZ bB ate 40 t103 t104 t105 w0 _ ?av ?ax A3.z).mono ?_);(case av=>exact aA ah.z);(case ax=>exact aG (ag.ge ah.z) HB.z);rintro e asU ⟨rfl,hi,hb,hk⟩;refine ⟨_,rfl,?_⟩;replace cT:=k0 (Kd.bf (Kd.nC (Kd.bf (ok:=fun k_=>(((((ur k_∨w.heap.size≤k_))∧k_ ≠ g)∧k_ ≠ ay)∧k_ ≠ cY)) (aV cT.z) (fun k_ aU=>(⟨aU,aU.1.1.2⟩:_∧k_ ≠ g))) hk (fun _ h=>h.2)) (fun _ h=>h.1));replace aa:=kK hk aa cy;replace as5:=kK hk as5 od;replace HK:=atm HK hk;replace HB:=k0 hb;replace ah:=k0 hi;obtain ⟨_,_⟩:=nE gh;obtain ⟨_,_⟩:=nE cy;obtain ⟨_,_,_,_⟩:=as9 aa;obtain ⟨_,_⟩:=nE od;obtain ⟨_,_,_,_⟩:=as9 as5))
     refine bodyPost_ret (results_cell_row rfl _ _ cY 26 #[.int .i64 aE,.slice atb az.length atc] (0,0) _ rfl kZ Try.underlying26 rfl (by kernel_rfl)) rfl ?_
     exact ⟨_,eR,aV (Kd.bf (Kd.iO (p:=⟨cY,1,none⟩) (Kd.iO (p:=⟨cY,0,none⟩) (Kd.bf cT.z (fun k_ hk=>(⟨hk,hk.2⟩:_∧k_ ≠ cY))) (fun _ hk=>hk.2) (.int .i64 aE)) (fun _ hk=>hk.2) (.slice atb az.length atc)) (fun _ hk=>hk.1.1.1.1)),aA ah.z,aG (ag.ge ah.z) HB.z,aK HK.z⟩
    replace H:=bS H;obtain ⟨⟨t134,t135⟩,A79,H⟩:=H
    dsimp only at H
    have H':=k0 H
    clear H
    go_enter Try.func96,Try.ntmps96
    go_wp2_with (first|(refine aX (N:=3) rfl ?_;refine eJ 3 #[.int .i64 aE,.slice atb az.length atc] 26 ?_;intro ay hg w80 aY hb;replace cT:=atZ cT hg hb;replace HB:=k0 (cu (aG (ag.ge ah.z) HB.z) hb);have aa:=k0 aY;have bn:=gW hg (b_ (aK HK.z));have cG:=k0 (Nat.le_trans jg.z bn.z);replace HK:=eC HK hb;have vH:=k0 ((by rw [hg];exact Nat.ne_of_lt (ag.lt (show ag w0 _ g asZ bB ate from aA ah.z)):g ≠ ay));have cy:=k0 ((by rw [hg];exact Nat.ne_of_gt (ag.lt (show ag w0 _ g asZ bB ate from aA ah.z)):ay ≠ g));replace ah:=k0 (ag.below (aA ah.z) hb);clear hb aY hg)|(refine aX (N:=4) rfl ?_;refine eJ 4 #[.int .i64 0,.slice none 0 0] 26 ?_;intro cY hg w81 aY hb;replace cT:=atZ cT hg hb;replace HB:=k0 (cu (aG (ag.ge ah.z) HB.z) hb);have as5:=k0 aY;have j9:=gW hg (b_ (aK HK.z));have q6:=k0 (Nat.le_trans jg.z j9.z);replace HK:=eC HK hb;have gh:=nL hg aa;have nx:=nG gh;replace aa:=kB aa hb;have FM:=k0 ((by rw [hg];exact Nat.ne_of_lt (ag.lt (show ag w0 _ g asZ bB ate from aA ah.z)):g ≠ cY));have od:=k0 ((by rw [hg];exact Nat.ne_of_gt (ag.lt (show ag w0 _ g asZ bB ate from aA ah.z)):cY ≠ g));replace ah:=k0 (ag.below (aA ah.z) hb);clear hb aY hg)|(refine aT (f:=49) rfl ?_;refine gC (some 8) Try.func49 #[.pointer (some ⟨g,0,none⟩),.int .i64 40] ?_;(with_reducible refine (cw.calls g asZ bB ate 40 t103 t104 t105 w0 _ ?av ?ax A3.z).mono ?_);(case av=>exact aA ah.z);(case ax=>exact aG (ag.ge ah.z) HB.z);rintro e w82 ⟨rfl,hi,hb,hk⟩;refine ⟨_,rfl,?_⟩;replace cT:=k0 (Kd.bf (Kd.nC (Kd.bf (ok:=fun k_=>(((((ur k_∨w.heap.size≤k_))∧k_ ≠ g)∧k_ ≠ ay)∧k_ ≠ cY)) (aV cT.z) (fun k_ aU=>(⟨aU,aU.1.1.2⟩:_∧k_ ≠ g))) hk (fun _ h=>h.2)) (fun _ h=>h.1));replace aa:=kK hk aa cy;replace as5:=kK hk as5 od;replace HK:=atm HK hk;replace HB:=k0 hb;replace ah:=k0 hi;obtain ⟨_,_⟩:=nE gh;obtain ⟨_,_⟩:=nE cy;obtain ⟨_,_,_,_⟩:=as9 aa)|(refine aT (f:=126) rfl ?_;refine gC (some 56) Try.func126 #[.agg #[.int .i64 aE,.slice atb az.length atc]] ?_;(with_reducible refine (jm.calls k aE _ _ az t134 t135 _ ?av ?ax A79.z).mono ?_);(case av=>exact aC ((Kd.gT cT.z).2.2));(case ax=>exact (Kd.gT cT.z).2.1);rintro e w86 ⟨ar_,rfl,as2,hb⟩;refine ⟨_,rfl,?_⟩;replace cT:=fl cT (Kd.Ad as2) hb;have SJ:=k0 (Kd.jD (Kd.F0 (M:=fun k_=>(w.heap.size≤k_)) as2 (b_ (aK HK.z)) (fun k_ h_=>h_)) (b_ (aK HK.z)));replace aa:=kB aa hb;replace as5:=kB as5 hb;replace HK:=eC HK hb;replace HB:=k0 (cu (aG (ag.ge ah.z) HB.z) hb);replace ah:=k0 (ag.below (aA ah.z) hb);obtain ⟨_,_,_,_⟩:=as9 aa;obtain ⟨Fv,Ez,rfl⟩:=Kd.er SJ.z))
    go_loopg [] k (fun kq w'=>∃ (rN:List (List Int)) (u102001:Value),af (atU.l0 kq asZ t104 t105 t134 rN=some (r1,r2,r3,r4))∧af (kq≤k)∧af (Kd.S (Kd.slice 2 (Kd.int .i64)) 29 w' w.heap.size (fun k_=>(w.heap.size≤k_)) u102001 rN)∧af (w'.heap[ay]?=some (.cells #[.int .i64 t134,u102001] 26 (0,0)))∧af (w'.heap[cY]?=some (.cells #[.int .i64 0,(.slice none 0 0)] 26 (0,0)))∧af (ag w0 w' g asZ t104 t105)∧af (bx w w' g none)∧af (Below w0.heap.size w0 w'))
    case atStart=>exact ⟨(t135),(.slice Fv t135.length Ez),H',⟨Nat.le_refl _⟩,⟨aS (Kd.bQ (gS 1 (.slice Fv t135.length Ez) (gS 0 (.int .i64 t134) (tS SJ aa))) (fun _ hk=>hk.1.1))⟩,⟨kZ⟩,⟨kZ⟩,⟨aA ah.z⟩,⟨aK HK.z⟩,⟨aG (ag.ge ah.z) HB.z⟩⟩
    case round =>
     clear H'
     obtain ⟨rN,u102001,HA,as3,sY,aa,as5,ah,HK,HB⟩:=hrel
     cases gk with
     | zero=>exact absurd HA.z (by simp [atU.l0])
     | succ k1 =>
      have H:=HA.z
      clear HA
      simp only [atU.l0] at H
      by_cases c89:(rN.length:Int)≤10
      case neg =>
       rw [if_neg c89] at H
       have aeD:=decide_eq_false c89
       have aeE:decide (rN.length≤10)=false:=decide_eq_false (by omega)
       clear c89
       simp only [Option.some.injEq,Prod.mk.injEq] at H
       obtain ⟨rfl,rfl,rfl,rfl⟩:=H
       obtain ⟨_,_⟩:=nE gh
       obtain ⟨_,_⟩:=nE cy
       obtain ⟨_,_,_,_⟩:=as9 aa
       obtain ⟨R4,UO,rfl⟩:=Kd.er sY.z
       obtain ⟨_,_⟩:=nE od
       obtain ⟨_,_,_,_⟩:=as9 as5
       go_wp2
       refine bodyPost_ret (results_cell_row rfl _ _ cY 26 #[.int .i64 t134,.slice R4 rN.length UO] (0,0) _ rfl kZ Try.underlying26 rfl (by kernel_rfl)) rfl ?_
       exact ⟨_,eR,Kd.bf (Kd.FZ (aS (Kd.bQ (gS 1 (.slice R4 rN.length UO) (gS 0 (.int .i64 t134) (tS sY as5))) (fun _ hk=>hk.1)))) (fun k_ hk=>by first|exact ⟨(.inr (hk.1)),hk.2⟩|exact (.inr (hk))),aA ah.z,aG (ag.ge ah.z) HB.z,aK HK.z⟩
      rw [if_pos c89] at H
      have aeD:=decide_eq_true c89
      have aeE:decide (rN.length≤10)=true:=decide_eq_true (by omega)
      clear c89
      obtain ⟨IM,Nt⟩:=nY (([0,0]:List Int):List Int)
      replace H:(if rN.length < 5864062014805 then (atU.l0 k1 asZ t104 t105 t134 (rN ++ [IM])) else (none))=some (r1,r2,r3,r4):=rH Nt.z H
      replace H:=iS H;obtain ⟨c90,H⟩:=H
      have Nk:=k0 c90
      clear c90
      obtain ⟨LQ,Tr⟩:=nY (rN ++ [IM]:List (List Int))
      replace H:(atU.l0 k1 asZ t104 t105 t134 LQ)=some (r1,r2,r3,r4):=rH Tr.z H
      have H':=k0 H
      clear H
      obtain ⟨_,_⟩:=nE gh
      obtain ⟨_,_⟩:=nE cy
      obtain ⟨_,_,_,_⟩:=as9 aa
      obtain ⟨I6,JZ,rfl⟩:=Kd.er sY.z
      go_wp2_with (first|(refine aX (N:=63) rfl ?_;refine jM 2 (N:=63) (xs:=([0,0]:List Int)) (inner:=[.int .i64 0,.int .i64 0]) (aJ.one (show Kd.M (Kd.int .i64) _ _ _ 0 [.int .i64 0] from rfl) (aJ.one (show Kd.M (Kd.int .i64) _ _ _ 0 [.int .i64 0] from rfl) (aJ.none _ _))) ?_;intro asa w95 EM hb bR atf;clear bR atf;(first|rw [← Nt.z] at EM|(simp only [Int.reduceToNat] at EM;rw [← Nt.z] at EM));replace sY:=kg sY (Kd.bh EM) hb;have Jj:=k0 (Kd.cg (Kd.rY (M:=fun k_=>(w.heap.size≤k_)) EM (b_ (aK HK.z)) (fun k_ h_=>h_)) (b_ (aK HK.z)));replace aa:=kB aa hb;replace as5:=kB as5 hb;replace HK:=eC HK hb;replace HB:=k0 (cu (aG (ag.ge ah.z) HB.z) hb);replace ah:=k0 (ag.below (aA ah.z) hb);clear hb EM;obtain ⟨Sb,UU,rfl⟩:=Kd.b9 Jj.z)|((with_reducible refine ji (b:=.append) (xs:=#[.tmp 62,.tmp 64]) rfl ?_);at_builtin;refine Kd.uv (Kd.slice 2 (Kd.int .i64)) w.heap.size rfl (.tmp 62) (.tmp 64) 24 29 (.slice none 0 0) 24 rfl Try.underlying24 sB rfl (by decide) (by omega) (.slice I6 rN.length JZ) rN IM [.slice Sb IM.length UU] (fun k_=>(w.heap.size≤k_)) (fun k_=>some k_=(.slice Sb IM.length UU:Value).ownBlock) rfl rfl ?aP (fun k_ aU=>((Kd.aH (ok':=fun k_=>((fun k_=>(w.heap.size≤k_))) k_∧some k_ ≠ (.slice I6 rN.length JZ:Value).ownBlock) (Kd.iZ (Jj.z) (Kd.atC sY.z) (by decide)) (fun k_ hk=>⟨hk.1.1,hk.2⟩))).1 k_ aU.symm) ?aF ?aO (Below.refl _ _) ?aS ?aL ?_;(case aP=>exact Kd.ke (Kd.aH (Kd.om rfl (Kd.aH (ok':=fun k_=>((fun k_=>(w.heap.size≤k_))) k_∧some k_ ≠ (.slice I6 rN.length JZ:Value).ownBlock) (Kd.iZ (Jj.z) (Kd.atC sY.z) (by decide)) (fun k_ hk=>⟨hk.1.1,hk.2⟩))) (fun _ h_=>h_)));(case aF=>exact (fun k_ hk=>(Nat.le_trans (b_ (aK HK.z)) hk)));(case aO=>exact (aS (Kd.bQ sY.z (fun k_ hk=>⟨hk.1,fun e_=>hk.2 e_⟩))));(case aS=>exact (b_ (aK HK.z)));(case aL=>have:=Nk.out;omega);intro akV w97 ho hb hg a_;rw [← Tr.z] at ho;replace aa:=k0 (fL (aB aa.z) hg (Kd.mX sY.z aa.z (by decide)));replace as5:=k0 (fL (aB as5.z) hg (Kd.mX sY.z as5.z (by decide)));replace HB:=k0 (qC (aG (ag.ge ah.z) HB.z) HL.z hb);replace ah:=k0 (ag.grown (aA ah.z) hg (ag.CZ ah.z sY.z (by decide)));replace HK:=k0 (bx.trans (aK HK.z) (bx.auk hg g) (Kd.avn sY.z));have qx:=k0 ho;clear sY Jj;clear ho hb hg a_;obtain ⟨Fw,Gm,rfl⟩:=Kd.er qx.z;obtain ⟨_,_,_,_⟩:=as9 aa))
      go_roundg k1
      case measure=>have:=as3.z;omega
      case rel=>exact ⟨(LQ),(.slice Fw LQ.length Gm),H',⟨by have:=as3.z;omega⟩,⟨aS (Kd.bQ (gS 1 (.slice Fw LQ.length Gm) (tS qx aa)) (fun _ hk=>hk.1))⟩,⟨kZ⟩,⟨kZ⟩,⟨aA ah.z⟩,⟨aK HK.z⟩,⟨aG (ag.ge ah.z) HB.z⟩⟩
   replace H:=bS H;obtain ⟨⟨t122,t123⟩,I1,H⟩:=H
   dsimp only at H
   by_cases c41:(t123.length:Int) > 0
   case neg =>
    rw [if_neg c41] at H
    have Ep:=decide_eq_false c41
    have aeg:decide (0 < t123.length)=false:=decide_eq_false (by omega)
    clear c41
    simp only [Option.some.injEq,Prod.mk.injEq] at H
    obtain ⟨rfl,rfl,rfl,rfl⟩:=H
    go_enter Try.func96,Try.ntmps96
    go_wp2_with (first|(refine aX (N:=3) rfl ?_;refine eJ 3 #[.int .i64 aE,.slice atb az.length atc] 26 ?_;intro ay hg w67 aY hb;replace cT:=atZ cT hg hb;replace HB:=k0 (cu (aG (ag.ge ah.z) HB.z) hb);have aa:=k0 aY;have bn:=gW hg (b_ (aK HK.z));have cG:=k0 (Nat.le_trans jg.z bn.z);replace HK:=eC HK hb;have vH:=k0 ((by rw [hg];exact Nat.ne_of_lt (ag.lt (show ag w0 _ g asZ bB ate from aA ah.z)):g ≠ ay));have cy:=k0 ((by rw [hg];exact Nat.ne_of_gt (ag.lt (show ag w0 _ g asZ bB ate from aA ah.z)):ay ≠ g));replace ah:=k0 (ag.below (aA ah.z) hb);clear hb aY hg)|(refine aX (N:=4) rfl ?_;refine eJ 4 #[.int .i64 0,.slice none 0 0] 26 ?_;intro cY hg w68 aY hb;replace cT:=atZ cT hg hb;replace HB:=k0 (cu (aG (ag.ge ah.z) HB.z) hb);have as5:=k0 aY;have j9:=gW hg (b_ (aK HK.z));have q6:=k0 (Nat.le_trans jg.z j9.z);replace HK:=eC HK hb;have gh:=nL hg aa;have nx:=nG gh;replace aa:=kB aa hb;have FM:=k0 ((by rw [hg];exact Nat.ne_of_lt (ag.lt (show ag w0 _ g asZ bB ate from aA ah.z)):g ≠ cY));have od:=k0 ((by rw [hg];exact Nat.ne_of_gt (ag.lt (show ag w0 _ g asZ bB ate from aA ah.z)):cY ≠ g));replace ah:=k0 (ag.below (aA ah.z) hb);clear hb aY hg)|(refine aT (f:=49) rfl ?_;refine gC (some 8) Try.func49 #[.pointer (some ⟨g,0,none⟩),.int .i64 40] ?_;(with_reducible refine (cw.calls g asZ bB ate 40 t103 t104 t105 w0 _ ?av ?ax A3.z).mono ?_);(case av=>exact aA ah.z);(case ax=>exact aG (ag.ge ah.z) HB.z);rintro e w69 ⟨rfl,hi,hb,hk⟩;refine ⟨_,rfl,?_⟩;replace cT:=k0 (Kd.bf (Kd.nC (Kd.bf (ok:=fun k_=>(((((ur k_∨w.heap.size≤k_))∧k_ ≠ g)∧k_ ≠ ay)∧k_ ≠ cY)) (aV cT.z) (fun k_ aU=>(⟨aU,aU.1.1.2⟩:_∧k_ ≠ g))) hk (fun _ h=>h.2)) (fun _ h=>h.1));replace aa:=kK hk aa cy;replace as5:=kK hk as5 od;replace HK:=atm HK hk;replace HB:=k0 hb;replace ah:=k0 hi;obtain ⟨_,_⟩:=nE gh;obtain ⟨_,_⟩:=nE cy;obtain ⟨_,_,_,_⟩:=as9 aa)|(refine aT (f:=126) rfl ?_;refine gC (some 33) Try.func126 #[.agg #[.int .i64 aE,.slice atb az.length atc]] ?_;(with_reducible refine (jm.calls k aE _ _ az t122 t123 _ ?av ?ax I1.z).mono ?_);(case av=>exact aC ((Kd.gT cT.z).2.2));(case ax=>exact (Kd.gT cT.z).2.1);rintro e RI ⟨Fa,rfl,as2,hb⟩;refine ⟨_,rfl,?_⟩;replace cT:=fl cT (Kd.Ad as2) hb;have cP:=k0 (Kd.jD (Kd.F0 (M:=fun k_=>(w.heap.size≤k_)) as2 (b_ (aK HK.z)) (fun k_ h_=>h_)) (b_ (aK HK.z)));replace aa:=kB aa hb;replace as5:=kB as5 hb;replace HK:=eC HK hb;replace HB:=k0 (cu (aG (ag.ge ah.z) HB.z) hb);replace ah:=k0 (ag.below (aA ah.z) hb);obtain ⟨_,_,_,_⟩:=as9 aa;obtain ⟨Dy,Ey,rfl⟩:=Kd.er cP.z;obtain ⟨_,_⟩:=nE od;obtain ⟨_,_,_,_⟩:=as9 as5))
    refine bodyPost_ret (results_cell_row rfl _ _ cY 26 #[.int .i64 t122,.slice Dy t123.length Ey] (0,0) _ rfl kZ Try.underlying26 rfl (by kernel_rfl)) rfl ?_
    exact ⟨_,eR,Kd.bf (Kd.FZ (aS (Kd.bQ (Kd.lW (p:=⟨cY,1,none⟩) (Kd.lW (p:=⟨cY,0,none⟩) (Kd.lW (p:=⟨ay,1,none⟩) (Kd.lW (p:=⟨ay,0,none⟩) (Kd.Af (tS cP aa) as5.z (by decide)) (fun _ hk=>hk.1.2) (.int .i64 t122)) (fun _ hk=>hk.1.2) (.slice Dy t123.length Ey)) (fun _ hk=>hk.2) (.int .i64 t122)) (fun _ hk=>hk.2) (.slice Dy t123.length Ey)) (fun _ hk=>hk.1.1.1)))) (fun k_ hk=>by first|exact ⟨(.inr (hk.1)),hk.2⟩|exact (.inr (hk))),aA ah.z,aG (ag.ge ah.z) HB.z,aK HK.z⟩
   rw [if_pos c41] at H
   have Ep:=decide_eq_true c41
   have aeg:decide (0 < t123.length)=true:=decide_eq_true (by omega)
   clear c41
   replace H:=bS H;obtain ⟨⟨t126,t127,t128⟩,L1,H⟩:=H
   dsimp only at H
   replace H:=iS H;obtain ⟨c43,H⟩:=H
   have JR:=decide_eq_true c43
   clear c43
   replace H:=iS H;obtain ⟨c44,H⟩:=H
   have Uu:=decide_eq_true c44
   clear c44
   replace H:=iS H;obtain ⟨c45,H⟩:=H
   have ab4:=k0 c45
   clear c45
   obtain ⟨nU,vM⟩:=nY ((ai t123 t126) ++ [0]:List Int)
   replace H:(some (t122,(t123.set (t126:Int).toNat nU),t127,t128))=some (r1,r2,r3,r4):=rH vM.z H
   obtain ⟨xC,yP⟩:=nY (t123.set (t126:Int).toNat nU:List (List Int))
   replace H:(some (t122,xC,t127,t128))=some (r1,r2,r3,r4):=rH yP.z H
   simp only [Option.some.injEq,Prod.mk.injEq] at H
   obtain ⟨rfl,rfl,rfl,rfl⟩:=H
   go_enter Try.func96,Try.ntmps96
   try go_wp2_with (first|(refine aX (N:=3) rfl ?_;refine eJ 3 #[.int .i64 aE,.slice atb az.length atc] 26 ?_;intro ay hg w47 aY hb;replace cT:=atZ cT hg hb;replace HB:=k0 (cu (aG (ag.ge ah.z) HB.z) hb);have aa:=k0 aY;have bn:=gW hg (b_ (aK HK.z));have cG:=k0 (Nat.le_trans jg.z bn.z);replace HK:=eC HK hb;have vH:=k0 ((by rw [hg];exact Nat.ne_of_lt (ag.lt (show ag w0 _ g asZ bB ate from aA ah.z)):g ≠ ay));have cy:=k0 ((by rw [hg];exact Nat.ne_of_gt (ag.lt (show ag w0 _ g asZ bB ate from aA ah.z)):ay ≠ g));replace ah:=k0 (ag.below (aA ah.z) hb);clear hb aY hg)|(refine aX (N:=4) rfl ?_;refine eJ 4 #[.int .i64 0,.slice none 0 0] 26 ?_;intro cY hg Ly aY hb;replace cT:=atZ cT hg hb;replace HB:=k0 (cu (aG (ag.ge ah.z) HB.z) hb);have as5:=k0 aY;have j9:=gW hg (b_ (aK HK.z));have q6:=k0 (Nat.le_trans jg.z j9.z);replace HK:=eC HK hb;have gh:=nL hg aa;have nx:=nG gh;replace aa:=kB aa hb;have FM:=k0 ((by rw [hg];exact Nat.ne_of_lt (ag.lt (show ag w0 _ g asZ bB ate from aA ah.z)):g ≠ cY));have od:=k0 ((by rw [hg];exact Nat.ne_of_gt (ag.lt (show ag w0 _ g asZ bB ate from aA ah.z)):cY ≠ g));replace ah:=k0 (ag.below (aA ah.z) hb);clear hb aY hg)|(refine aT (f:=49) rfl ?_;refine gC (some 8) Try.func49 #[.pointer (some ⟨g,0,none⟩),.int .i64 40] ?_;(with_reducible refine (cw.calls g asZ bB ate 40 t103 t104 t105 w0 _ ?av ?ax A3.z).mono ?_);(case av=>exact aA ah.z);(case ax=>exact aG (ag.ge ah.z) HB.z);rintro e RE ⟨rfl,hi,hb,hk⟩;refine ⟨_,rfl,?_⟩;replace cT:=k0 (Kd.bf (Kd.nC (Kd.bf (ok:=fun k_=>(((((ur k_∨w.heap.size≤k_))∧k_ ≠ g)∧k_ ≠ ay)∧k_ ≠ cY)) (aV cT.z) (fun k_ aU=>(⟨aU,aU.1.1.2⟩:_∧k_ ≠ g))) hk (fun _ h=>h.2)) (fun _ h=>h.1));replace aa:=kK hk aa cy;replace as5:=kK hk as5 od;replace HK:=atm HK hk;replace HB:=k0 hb;replace ah:=k0 hi;obtain ⟨_,_⟩:=nE gh;obtain ⟨_,_⟩:=nE cy;obtain ⟨_,_,_,_⟩:=as9 aa)|(refine aT (f:=126) rfl ?_;refine gC (some 33) Try.func126 #[.agg #[.int .i64 aE,.slice atb az.length atc]] ?_;(with_reducible refine (jm.calls k aE _ _ az t122 t123 _ ?av ?ax I1.z).mono ?_);(case av=>exact aC ((Kd.gT cT.z).2.2));(case ax=>exact (Kd.gT cT.z).2.1);rintro e w53 ⟨Fa,rfl,as2,hb⟩;refine ⟨_,rfl,?_⟩;replace cT:=fl cT (Kd.Ad as2) hb;have cP:=k0 (Kd.jD (Kd.F0 (M:=fun k_=>(w.heap.size≤k_)) as2 (b_ (aK HK.z)) (fun k_ h_=>h_)) (b_ (aK HK.z)));replace aa:=kB aa hb;replace as5:=kB as5 hb;replace HK:=eC HK hb;replace HB:=k0 (cu (aG (ag.ge ah.z) HB.z) hb);replace ah:=k0 (ag.below (aA ah.z) hb);obtain ⟨_,_,_,_⟩:=as9 aa;obtain ⟨Dv,vW,rfl⟩:=Kd.er cP.z)|(refine aT (f:=49) rfl ?_;refine gC (some 41) Try.func49 #[.pointer (some ⟨g,0,none⟩),.int .i64 (t123.length:Int)] ?_;(with_reducible refine (cw.calls g asZ t104 t105 (t123.length:Int) t126 t127 t128 w0 _ ?av ?ax L1.z).mono ?_);(case av=>exact aA ah.z);(case ax=>exact aG (ag.ge ah.z) HB.z);rintro e ZK ⟨rfl,hi,hb,hk⟩;refine ⟨_,rfl,?_⟩;replace cT:=k0 (Kd.bf (Kd.nC (Kd.bf (ok:=fun k_=>((((((ur k_∨w.heap.size≤k_))∧k_ ≠ g)∧k_ ≠ ay)∧k_ ≠ cY)∧some k_ ≠ (.slice Dv t123.length vW:Value).ownBlock)) (fV cT) (fun k_ aU=>(⟨aU,aU.1.1.1.2⟩:_∧k_ ≠ g))) hk (fun _ h=>h.2)) (fun _ h=>h.1));replace as5:=k0 (bx.blk hk (g':=cY) (o:=.cells #[.int .i64 0,.slice none 0 0] 26 (0,0)) kZ od.z (by simp));replace cP:=k0 (Kd.bQ (Kd.qz (ag.p6 (show ag w0 _ g asZ t104 t105 from aA ah.z) (Lm cP aa) (by decide)) hk (fun _ h=>h.2)) (fun _ h=>h.1));replace aa:=k0 (bx.blk hk (g':=ay) (o:=sO t122 Dv t123 vW 26) kZ cy.z (by simp));replace HK:=atm HK hk;replace HB:=k0 hb;replace ah:=k0 hi))
   replace cT:=k0 (Kd.vQ cT.z);replace cP:=k0 (Kd.dK cP.z);replace aa:=k0 (dg aa.z);replace as5:=k0 (dg as5.z);replace ah:=k0 (ag.drew ah.z);replace HK:=k0 (wU HK.z);replace HB:=k0 (eZ HB.z)
   obtain ⟨nJ,mO⟩:=iN t126 (t123.length:Int)
   obtain ⟨avq,Dn,Ej,e129,qM,AO,AG⟩:=b8 (Kd.as4 cP.z).2.2 t126 nJ mO
   cases e129
   obtain ⟨UC,G4,GP,AB⟩:=Kd.att cP.z [] t126 nJ (by first|exact mO|exact oD|(have e_:=(Kd.as4 cP.z).1;omega))
   obtain ⟨Zz,rfl,auN⟩:=GP
   have qb:=AB 0 _ rfl
   rw [Nat.add_zero,show ((Kd.slice 2 (Kd.int .i64))).sz=1 from rfl,Nat.mul_one] at qb
   replace qb:=Option.some.inj (qb.symm.trans qM)
   rw [qb] at auN
   have qw:=k0 (show Kd.R (Kd.int .i64) 2 _ _ _ _ (ai t123 t126) from auN)
   clear qb auN
   have z_:=k0 qM
   clear AB G4
   have MK:=k0 AG
   have Sq:=k0 AO
   clear AG AO
   replace nJ:=eT nJ
   replace mO:=eT mO
   have n_:=k0 (Kd.bQ (ok':=(fun k_=>(w.heap.size≤k_))) cP.z (fun k_ hk=>hk.1))
   clear cP
   have cP:=n_
   clear n_
   obtain ⟨p8,Cn,Vm,VQ,afT,aoA,SC⟩:=Kd.TM cP.z (by have h_:(t126:Int) < ((t123.length:Int):Int):=oD;have J8:0≤(t126:Int):=oD;omega)
   (first|cases Vm|(injection Vm with atd atk dM;(first|subst atd|(injection atd with atd;subst atd));subst dM;clear atk))
   have aaL:=k0 VQ
   have aaU:=k0 SC
   clear VQ afT SC
   (first|simp only [add_plain] at qM|skip)
   obtain ⟨YT,aon,agK,af7,Wx,_,_,VY⟩:=Kd.TL cP.z [] (t126:Int) oD (by have h_:(t126:Int) < ((t123.length:Int):Int):=oD;first|exact h_|(have e_:=(Kd.as4 cP.z).1;omega)|simpa using h_)
   obtain ⟨asJ,rfl,VU⟩:=af7
   have avG:=Wx 0 _ rfl
   have O4:=z_.z
   (try simp only [add_plain] at O4)
   (try simp only [Nat.add_zero] at avG)
   (try rw [show ((Kd.slice 2 (Kd.int .i64))).sz=1 from rfl,Nat.mul_one] at avG)
   replace avG:=Option.some.inj (avG.symm.trans O4)
   subst avG
   clear O4 Wx agK
   have JC:=k0 (show Kd.R (Kd.int .i64) 2 _ w.heap.size YT (.slice Dn (ai t123 t126).length Ej) (ai t123 t126) from VU)
   have DK:=k0 VY
   have Mx:=k0 (Kd.as4 cP.z).1
   clear VY VU
   refine atG (n:=12) (S:=fun w'=>w'.cell? ⟨ay,0,none⟩=some (.int .i64 t122)∧w'.cell? ⟨ay,1,none⟩=some (.slice (some ⟨p8,0,none⟩) t123.length vW)∧w'.cell? ⟨p8,(t126).toNat,none⟩=some (.slice Dn (ai t123 t126).length Ej)) (ds:=[11]) (ba 12 0) (by kernel_rfl) rfl rfl ⟨dU aa,ej aa,qM⟩ (fun hHeld=>?_);refine jX atU.aky atU.ads (fun aj bP=>?_)
   generalize ZK.drew=Bq at cT cP aa as5 ah HK HB aaU DK qw MK z_ JC qM hHeld ⊢
   refine pu 0 (some 42) (ba 12 1) aj (h:=?_)
   refine pu 2 (some 44) (ba 12 5) aj (h:=?_)
   refine pu 3 (some 45) (ba 12 13) aj (h:=?_)
   refine pu 5 (some 47) (ba 12 45) aj (h:=?_)
   refine jA 1 (some 43) (ba 12 47) aj bP hHeld (h:=?_)
   refine jA 4 (some 46) (ba 12 63) aj bP hHeld (h:=?_)
   refine pu 6 (some 48) (ba 12 127) aj (h:=?_)
   refine jA 7 (some 49) (ba 12 255) aj bP hHeld (h:=?_)
   refine atw (i:=8) (N:=some 50) (ba 12 511) rfl rfl (atq aj.out (by kernel_rfl)) (by decide) (fun K hK=>?_)
   refine Iu (w1:=?_) (v:=?_) (by rfl) rfl ?_ ?_
   rotate_left 2
   ·go_simp
    constructor
    ·rfl
    ·rfl
   refine hK.out _ _ ⟨(dY (atW aa.z _) 0).trans rfl,(dY (atW aa.z _) 1).trans rfl,(World.cell?_alloc_lt _ _ _ (World.block_lt_of_cell? _ _ (hHeld.2.2))).trans (hHeld.2.2)⟩ (fun hHeld=>?_)
   clear hK K
   refine hJ (a':=?_) ?_ ?_
   rotate_left;· show Act.put _ (some 50) _=_;simp only [Act.put,zI,zZ,zS,bp,bH];rfl
   refine atw (i:=9) (N:=some 51) (ba 12 1023) rfl rfl (atq aj.out (by kernel_rfl)) (by decide) (fun K hK=>?_)
   refine Kd.Ju (Kd.int .i64) w.heap.size (by rfl) (.tmp 49) (.tmp 50) 29 2 (.int .i64 0) 8 rfl Try.underlying29 ju rfl (by decide) (by omega) (.slice Dn (ai t123 t126).length Ej) (ai t123 t126) 0 [.int .i64 0] (fun k_=>YT k_∨((fun k_=>(w.heap.size≤k_))) k_∧Bq.heap.size≤k_) (fun _=>False) rfl rfl ?aP (fun _ hk=>hk.elim) ?aF ?aO (Below.refl _ _) ?aS ?aL ?_
   (case aP=>exact rfl)
   (case aF=>exact (fun k_ hk=>.inr ⟨by first|trivial|exact Nat.le_trans (b_ (aK HK.z)) hk,hk⟩))
   (case aO=>exact (aR (Kd.aH JC.out (fun _ hk=>.inl hk))))
   (case aS=>exact (b_ (aK HK.z)))
   (case aL=>have:=ab4.out;omega)
   intro gp zz ho hb hg a_
   (first|have D2:=tq hg (hHeld.2.2) (by first|(rw [add_block];exact (fun e_=>((qw.z.1 _ e_.symm).2) rfl))|(show some (Addr.add _ _).block ≠ _;rw [add_block];exact (fun e_=>((qw.z.1 _ e_.symm).2) rfl))|exact (fun e_=>((qw.z.1 _ e_.symm).2) rfl))|have D2:=tq hg (aeR (hHeld.2.2) (by first|(rw [add_block];exact Kd.yS cP.z _ rfl)|(show (Addr.add _ _).block < _;rw [add_block];exact Kd.yS cP.z _ rfl)|exact Kd.yS cP.z _ rfl)) (by first|(rw [add_block];exact (fun e_=>((qw.z.1 _ e_.symm).2) rfl))|(show some (Addr.add _ _).block ≠ _;rw [add_block];exact (fun e_=>((qw.z.1 _ e_.symm).2) rfl))|exact (fun e_=>((qw.z.1 _ e_.symm).2) rfl)))
   rw [← vM.z] at ho
   replace aa:=k0 (fL (aB aa.z) hg (Kd.jh qw.z aa.z (by decide)));replace as5:=k0 (fL (aB as5.z) hg (Kd.jh qw.z as5.z (by decide)));replace HB:=k0 (qC (aG (ag.ge ah.z) HB.z) HL.z hb);replace ah:=k0 (ag.grown (aA ah.z) hg (ag.lK ah.z qw.z (by decide)));replace HK:=k0 (bx.trans (aK HK.z) (bx.auk hg g) (Kd.vN qw.z));replace DK:=k0 (Kd.Ta (Kd.abV (by repeat (first|exact DK.out|refine Kd.abO ?_ _|refine Kd.abR ?_ _|refine Kd.abQ ?_))) hg (fun k_ e_=>.inl (JC.out.1 k_ e_)));have o7:=k0 ho;clear cP JC qw
   clear ho hb hg a_
   have yh:0≤(t126:Int):=oD
   have yl:(t126:Int) < ((t123.length:Int):Int):=oD
   replace yh:=eT yh
   replace yl:=eT yl
   obtain ⟨ua,uB,Vo⟩:=Kd.b9 o7.z
   (first|subst Vo|(injection Vo with atu jq fc;have jr:=atu.symm;have js:=fc.symm;clear atu jq fc;subst jr;subst js))
   obtain ⟨_,_,Kq,_,_,Wy,_⟩:=Kd.Nb DK.out oD (by have h_:(t126:Int) < ((t123.length:Int):Int):=oD;first|exact h_|(have e_:=(Mx.out);omega)|simpa using h_)
   obtain ⟨_,WU⟩:=Kd.abP DK.out oD (by have h_:(t126:Int) < ((t123.length:Int):Int):=oD;first|exact h_|(have e_:=(Mx.out);omega)|simpa using h_)
   have X_:=Wy 0 _ rfl
   have WR:=WU 0
   (try simp only [Nat.add_zero] at X_ WR)
   (try rw [show ((Kd.slice 2 (Kd.int .i64))).sz=1 from rfl,Nat.mul_one] at X_)
   (try rw [show ((Kd.slice 2 (Kd.int .i64))).sz=1 from rfl,Nat.mul_one] at WR)
   have MG:=Kd.acP DK.out oD (by have h_:(t126:Int) < ((t123.length:Int):Int):=oD;first|exact h_|(have e_:=(Mx.out);omega)|simpa using h_) (seg:=[.slice ua nU.length uB]) (j:=0) (show 1≤1 from by decide) (x':=nU) (Kd.ke o7.z) (fun _ hk=>hk)
   (try simp only [show ((Kd.slice 2 (Kd.int .i64))).sz=1 from rfl,Nat.mul_one,Nat.add_zero] at MG)
   clear Wy WU
   have am5:=k0 (show g ≠ p8 from by have h_:=ag.lK ah.z Kq (by decide);intro e_;exact h_ (by rw [e_];rfl))
   have abk:=k0 (show ay ≠ p8 from by have h_:=Kd.jh Kq aa.z (by decide);intro e_;exact h_ (by rw [e_];rfl))
   have abl:=k0 (show cY ≠ p8 from by have h_:=Kd.jh Kq as5.z (by decide);intro e_;exact h_ (by rw [e_];rfl))
   have MW:=MG.1
   rw [← yP.z] at MW
   have abt:=k0 MW
   obtain ⟨_,W6⟩:=Kd.FX Kq p8 rfl
   have amE:=k0 W6
   clear MG MW W6
   refine hK.out _ _ ⟨dU aa,ej aa,D2⟩ (fun hHeld=>?_)
   clear hK K
   refine hJ (a':=?_) ?_ ?_
   rotate_left;· show Act.put _ (some 51) _=_;simp only [Act.put,zI,zZ,zS,bp,bH];rfl
   refine pu 10 (some 52) (ba 12 2047) aj (h:=?_)
   refine oK (i:=11) (N:=none) (ba 12 4095) rfl rfl (atq aj.out (by kernel_rfl)) (by decide) (fun K hK=>?_)
   refine lf (w1:=?_) (by rfl) rfl ?_ ?_
   rotate_left;· go_simp;rfl
   refine hK.out _ _ ?_
   clear hK K
   refine gY (jU aj.out (by kernel_rfl)) ?_
   have fC:af (Kd.S (Kd.slice 2 (Kd.int .i64)) 29 (zz.setCell ⟨p8,(t126:Int).toNat,none⟩ (.slice ua nU.length uB)) w.heap.size (fun k_=>(w.heap.size≤k_)) (.slice (some ⟨p8,0,none⟩) t123.length vW) xC):=⟨aS (abt.out)⟩
   have fD:af ((zz.setCell ⟨p8,(t126:Int).toNat,none⟩ (.slice ua nU.length uB)).heap[ay]?=some (.cells #[.int .i64 t122,.slice (some ⟨p8,0,none⟩) t123.length vW] 26 (0,0))):=⟨by (with_reducible repeat (first|refine o_ ?_ _|refine dg ?_|refine atW ?_ _));refine yU ?_ abk.out _;exact bk⟩
   have gN:af ((zz.setCell ⟨p8,(t126:Int).toNat,none⟩ (.slice ua nU.length uB)).heap[cY]?=some (.cells #[.int .i64 0,.slice none 0 0] 26 (0,0))):=⟨by (with_reducible repeat (first|refine o_ ?_ _|refine dg ?_|refine atW ?_ _));refine yU ?_ abl.out _;exact bk⟩
   have jb:af (ag w0 (zz.setCell ⟨p8,(t126:Int).toNat,none⟩ (.slice ua nU.length uB)) g asZ t127 t128):=⟨aA ah.z⟩
   have kn:af (bx w (zz.setCell ⟨p8,(t126:Int).toNat,none⟩ (.slice ua nU.length uB)) g none):=⟨aK HK.z⟩
   have aua:af (Below w0.heap.size w0 (zz.setCell ⟨p8,(t126:Int).toNat,none⟩ (.slice ua nU.length uB))):=⟨by repeat (first|(with_reducible first|exact HB.z|apply eH|apply atz|apply eZ|refine o9 ?_ (Nat.le_trans HL.z aaL.out)|refine o9 ?_ (ag.ge ah.z)|refine o9 ?_ cG.z|refine o9 ?_ q6.z)|exact HB.z)⟩
   generalize (zz.setCell ⟨p8,(t126:Int).toNat,none⟩ (.slice ua nU.length uB))=RH at fC fD gN jb kn aua ⊢
   have cP:=fC
   have aa:=fD
   have as5:=gN
   have ah:=jb
   have HK:=kn
   have HB:=aua
   clear fC fD gN jb kn aua
   obtain ⟨_,_,_,_⟩:=as9 aa
   obtain ⟨_,_⟩:=nE od
   obtain ⟨_,_,_,_⟩:=as9 as5
   try go_wp2
   refine bodyPost_ret (results_cell_row rfl _ _ cY 26 #[.int .i64 t122,.slice (some ⟨p8,0,none⟩) t123.length vW] (0,0) _ rfl kZ Try.underlying26 rfl (by kernel_rfl)) rfl ?_
   exact ⟨_,eR,Kd.bf (Kd.FZ (aS (Kd.bQ (gS 1 (.slice (some ⟨p8,0,none⟩) t123.length vW) (gS 0 (.int .i64 t122) (tS cP as5))) (fun _ hk=>hk.1)))) (fun k_ hk=>by first|exact ⟨(.inr (hk.1)),hk.2⟩|exact (.inr (hk))),aA ah.z,aG (ag.ge ah.z) HB.z,aK HK.z⟩
  replace H:=bS H;obtain ⟨⟨t112,t113⟩,A20,H⟩:=H
  dsimp only at H
  obtain ⟨tZ,xU⟩:=nY (([0,t112]:List Int):List Int)
  replace H:(if t113.length < 5864062014805 then (some (t112,(t113 ++ [tZ]),t104,t105)) else (none))=some (r1,r2,r3,r4):=rH xU.z H
  replace H:=iS H;obtain ⟨c21,H⟩:=H
  have abZ:=k0 c21
  clear c21
  obtain ⟨LO,Tn⟩:=nY (t113 ++ [tZ]:List (List Int))
  replace H:(some (t112,LO,t104,t105))=some (r1,r2,r3,r4):=rH Tn.z H
  simp only [Option.some.injEq,Prod.mk.injEq] at H
  obtain ⟨rfl,rfl,rfl,rfl⟩:=H
  go_enter Try.func96,Try.ntmps96
  go_wp2_with (first|(refine aX (N:=3) rfl ?_;refine eJ 3 #[.int .i64 aE,.slice atb az.length atc] 26 ?_;intro ay hg Fe aY hb;replace cT:=atZ cT hg hb;replace HB:=k0 (cu (aG (ag.ge ah.z) HB.z) hb);have aa:=k0 aY;have bn:=gW hg (b_ (aK HK.z));have cG:=k0 (Nat.le_trans jg.z bn.z);replace HK:=eC HK hb;have vH:=k0 ((by rw [hg];exact Nat.ne_of_lt (ag.lt (show ag w0 _ g asZ bB ate from aA ah.z)):g ≠ ay));have cy:=k0 ((by rw [hg];exact Nat.ne_of_gt (ag.lt (show ag w0 _ g asZ bB ate from aA ah.z)):ay ≠ g));replace ah:=k0 (ag.below (aA ah.z) hb);clear hb aY hg)|(refine aX (N:=4) rfl ?_;refine eJ 4 #[.int .i64 0,.slice none 0 0] 26 ?_;intro cY hg RB aY hb;replace cT:=atZ cT hg hb;replace HB:=k0 (cu (aG (ag.ge ah.z) HB.z) hb);have as5:=k0 aY;have j9:=gW hg (b_ (aK HK.z));have q6:=k0 (Nat.le_trans jg.z j9.z);replace HK:=eC HK hb;have gh:=nL hg aa;have nx:=nG gh;replace aa:=kB aa hb;have FM:=k0 ((by rw [hg];exact Nat.ne_of_lt (ag.lt (show ag w0 _ g asZ bB ate from aA ah.z)):g ≠ cY));have od:=k0 ((by rw [hg];exact Nat.ne_of_gt (ag.lt (show ag w0 _ g asZ bB ate from aA ah.z)):cY ≠ g));replace ah:=k0 (ag.below (aA ah.z) hb);clear hb aY hg)|(refine aT (f:=49) rfl ?_;refine gC (some 8) Try.func49 #[.pointer (some ⟨g,0,none⟩),.int .i64 40] ?_;(with_reducible refine (cw.calls g asZ bB ate 40 t103 t104 t105 w0 _ ?av ?ax A3.z).mono ?_);(case av=>exact aA ah.z);(case ax=>exact aG (ag.ge ah.z) HB.z);rintro e ZF ⟨rfl,hi,hb,hk⟩;refine ⟨_,rfl,?_⟩;replace cT:=k0 (Kd.bf (Kd.nC (Kd.bf (ok:=fun k_=>(((((ur k_∨w.heap.size≤k_))∧k_ ≠ g)∧k_ ≠ ay)∧k_ ≠ cY)) (aV cT.z) (fun k_ aU=>(⟨aU,aU.1.1.2⟩:_∧k_ ≠ g))) hk (fun _ h=>h.2)) (fun _ h=>h.1));replace aa:=kK hk aa cy;replace as5:=kK hk as5 od;replace HK:=atm HK hk;replace HB:=k0 hb;replace ah:=k0 hi;obtain ⟨_,_⟩:=nE gh;obtain ⟨_,_⟩:=nE cy;obtain ⟨_,_,_,_⟩:=as9 aa)|(refine aT (f:=126) rfl ?_;refine gC (some 21) Try.func126 #[.agg #[.int .i64 aE,.slice atb az.length atc]] ?_;(with_reducible refine (jm.calls k aE _ _ az t112 t113 _ ?av ?ax A20.z).mono ?_);(case av=>exact aC ((Kd.gT cT.z).2.2));(case ax=>exact (Kd.gT cT.z).2.1);rintro e ZG ⟨Lr,rfl,as2,hb⟩;refine ⟨_,rfl,?_⟩;replace cT:=fl cT (Kd.Ad as2) hb;have mD:=k0 (Kd.jD (Kd.F0 (M:=fun k_=>(w.heap.size≤k_)) as2 (b_ (aK HK.z)) (fun k_ h_=>h_)) (b_ (aK HK.z)));replace aa:=kB aa hb;replace as5:=kB as5 hb;replace HK:=eC HK hb;replace HB:=k0 (cu (aG (ag.ge ah.z) HB.z) hb);replace ah:=k0 (ag.below (aA ah.z) hb);obtain ⟨_,_,_,_⟩:=as9 aa;obtain ⟨jN,jT,rfl⟩:=Kd.er mD.z)|(refine aX (N:=26) rfl ?_;refine jM 2 (N:=26) (xs:=([0,t112]:List Int)) (inner:=[.int .i64 0,.int .i64 t112]) (aJ.one (show Kd.M (Kd.int .i64) _ _ _ 0 [.int .i64 0] from rfl) (aJ.one (show Kd.M (Kd.int .i64) _ _ _ t112 [.int .i64 t112] from rfl) (aJ.none _ _))) ?_;intro akQ Lx sw hb bR atf;clear bR atf;(first|rw [← xU.z] at sw|(simp only [Int.reduceToNat] at sw;rw [← xU.z] at sw));replace cT:=fl cT (Kd.bh sw) hb;replace mD:=k0 (Kd.TK (Lm mD aa) (Kd.bh sw) hb);have DP:=k0 (Kd.cg (Kd.rY (M:=fun k_=>(w.heap.size≤k_)) sw (b_ (aK HK.z)) (fun k_ h_=>h_)) (b_ (aK HK.z)));replace aa:=kP (sO t112 jN t113 jT 26) aa hb;replace as5:=kF as5 hb;replace HK:=eC HK hb;replace HB:=k0 (cu (aG (ag.ge ah.z) HB.z) hb);replace ah:=k0 (ag.below (show ag w0 ((ZG.setCell ⟨ay,0,none⟩ (.int .i64 t112)).setCell ⟨ay,1,none⟩ (.slice jN t113.length jT)) g asZ t104 t105 from aA ah.z) hb);clear hb sw;obtain ⟨Dt,Eu,rfl⟩:=Kd.b9 DP.z)|((with_reducible refine ji (b:=.append) (xs:=#[.tmp 23,.tmp 27]) rfl ?_);at_builtin;refine Kd.uv (Kd.slice 2 (Kd.int .i64)) w.heap.size rfl (.tmp 23) (.tmp 27) 24 29 (.slice none 0 0) 24 rfl Try.underlying24 sB rfl (by decide) (by omega) (.slice jN t113.length jT) t113 tZ [.slice Dt tZ.length Eu] (fun k_=>(w.heap.size≤k_)) (fun k_=>some k_=(.slice Dt tZ.length Eu:Value).ownBlock) rfl rfl ?aP (fun k_ aU=>((Kd.aH (ok':=fun k_=>((fun k_=>(w.heap.size≤k_))) k_∧some k_ ≠ (.slice jN t113.length jT:Value).ownBlock) (Kd.iZ (DP.z) (Kd.atC mD.z) (by decide)) (fun k_ hk=>⟨hk.1.1,hk.2⟩))).1 k_ aU.symm) ?aF ?aO (Below.refl _ _) ?aS ?aL ?_;(case aP=>exact Kd.ke (Kd.aH (Kd.om rfl (Kd.aH (ok':=fun k_=>((fun k_=>(w.heap.size≤k_))) k_∧some k_ ≠ (.slice jN t113.length jT:Value).ownBlock) (Kd.iZ (DP.z) (Kd.atC mD.z) (by decide)) (fun k_ hk=>⟨hk.1.1,hk.2⟩))) (fun _ h_=>h_)));(case aF=>exact (fun k_ hk=>(Nat.le_trans (b_ (aK HK.z)) hk)));(case aO=>exact (aS (Kd.bQ mD.z (fun k_ hk=>⟨hk.1.1,fun e_=>hk.2 e_⟩))));(case aS=>exact (b_ (aK HK.z)));(case aL=>have:=abZ.out;omega);intro akR xo ho hb hg a_;rw [← Tn.z] at ho;replace cT:=k0 (Kd.JD (ok:=(fun k_=>(ur k_∨w.heap.size≤k_)∧some k_ ≠ (.slice Dt tZ.length Eu:Value).ownBlock∧k_ ≠ g∧k_ ≠ ay∧k_ ≠ cY)) (aV (Kd.bf cT.z (fun _ hk=>⟨⟨hk.1.1.1.1.1,⟨hk.2,⟨hk.1.1.1.1.2,⟨hk.1.1.1.2,hk.1.1.2⟩⟩⟩⟩,hk.1.2⟩))) hg a_);replace aa:=k0 (fL (aB aa.z) hg (Kd.mX mD.z aa.z (by decide)));replace as5:=k0 (fL (aB as5.z) hg (Kd.mX mD.z as5.z (by decide)));replace HB:=k0 (qC (aG (ag.ge ah.z) HB.z) HL.z hb);replace ah:=k0 (ag.grown (aA ah.z) hg (ag.CZ ah.z mD.z (by decide)));replace HK:=k0 (bx.trans (aK HK.z) (bx.auk hg g) (Kd.avn mD.z));have z4:=k0 ho;clear mD DP;clear ho hb hg a_;obtain ⟨xJ,tr,rfl⟩:=Kd.er z4.z;obtain ⟨_,_,_,_⟩:=as9 aa;obtain ⟨_,_⟩:=nE od;obtain ⟨_,_,_,_⟩:=as9 as5))
  refine bodyPost_ret (results_cell_row rfl _ _ cY 26 #[.int .i64 t112,.slice xJ LO.length tr] (0,0) _ rfl kZ Try.underlying26 rfl (by kernel_rfl)) rfl ?_
  exact ⟨_,eR,Kd.bf (Kd.FZ (aS (Kd.bQ (Kd.lW (p:=⟨cY,1,none⟩) (Kd.lW (p:=⟨cY,0,none⟩) (Kd.lW (p:=⟨ay,1,none⟩) (Kd.Af (tS z4 aa) as5.z (by decide)) (fun _ hk=>hk.1.2) (.slice xJ LO.length tr)) (fun _ hk=>hk.2) (.int .i64 t112)) (fun _ hk=>hk.2) (.slice xJ LO.length tr)) (fun _ hk=>hk.1.1)))) (fun k_ hk=>by first|exact ⟨(.inr (hk.1)),hk.2⟩|exact (.inr (hk))),aA ah.z,aG (ag.ge ah.z) HB.z,aK HK.z⟩
 obtain ⟨yA,xT⟩:=nY (([0,9,wrap64 (aE - 1)]:List Int):List Int)
 replace H:((gD.f asZ t104 t105 yA).bind fun lY=>(some (lY.1,az,lY.2.1,lY.2.2)))=some (r1,r2,r3,r4):=rH xT.z H
 replace H:=bS H;obtain ⟨⟨t109,t110,t111⟩,A5,H⟩:=H
 dsimp only at H
 simp only [Option.some.injEq,Prod.mk.injEq] at H
 obtain ⟨rfl,rfl,rfl,rfl⟩:=H
 go_enter Try.func96,Try.ntmps96
 go_wp2_with (first|(refine aX (N:=3) rfl ?_;refine eJ 3 #[.int .i64 aE,.slice atb az.length atc] 26 ?_;intro ay hg w6 aY hb;replace cT:=atZ cT hg hb;replace HB:=k0 (cu (aG (ag.ge ah.z) HB.z) hb);have aa:=k0 aY;have bn:=gW hg (b_ (aK HK.z));have cG:=k0 (Nat.le_trans jg.z bn.z);replace HK:=eC HK hb;have vH:=k0 ((by rw [hg];exact Nat.ne_of_lt (ag.lt (show ag w0 _ g asZ bB ate from aA ah.z)):g ≠ ay));have cy:=k0 ((by rw [hg];exact Nat.ne_of_gt (ag.lt (show ag w0 _ g asZ bB ate from aA ah.z)):ay ≠ g));replace ah:=k0 (ag.below (aA ah.z) hb);clear hb aY hg)|(refine aX (N:=4) rfl ?_;refine eJ 4 #[.int .i64 0,.slice none 0 0] 26 ?_;intro cY hg w7 aY hb;replace cT:=atZ cT hg hb;replace HB:=k0 (cu (aG (ag.ge ah.z) HB.z) hb);have as5:=k0 aY;have j9:=gW hg (b_ (aK HK.z));have q6:=k0 (Nat.le_trans jg.z j9.z);replace HK:=eC HK hb;have gh:=nL hg aa;have nx:=nG gh;replace aa:=kB aa hb;have FM:=k0 ((by rw [hg];exact Nat.ne_of_lt (ag.lt (show ag w0 _ g asZ bB ate from aA ah.z)):g ≠ cY));have od:=k0 ((by rw [hg];exact Nat.ne_of_gt (ag.lt (show ag w0 _ g asZ bB ate from aA ah.z)):cY ≠ g));replace ah:=k0 (ag.below (aA ah.z) hb);clear hb aY hg)|(refine aT (f:=49) rfl ?_;refine gC (some 8) Try.func49 #[.pointer (some ⟨g,0,none⟩),.int .i64 40] ?_;(with_reducible refine (cw.calls g asZ bB ate 40 t103 t104 t105 w0 _ ?av ?ax A3.z).mono ?_);(case av=>exact aA ah.z);(case ax=>exact aG (ag.ge ah.z) HB.z);rintro e w8 ⟨rfl,hi,hb,hk⟩;refine ⟨_,rfl,?_⟩;replace cT:=k0 (Kd.bf (Kd.nC (Kd.bf (ok:=fun k_=>(((((ur k_∨w.heap.size≤k_))∧k_ ≠ g)∧k_ ≠ ay)∧k_ ≠ cY)) (aV cT.z) (fun k_ aU=>(⟨aU,aU.1.1.2⟩:_∧k_ ≠ g))) hk (fun _ h=>h.2)) (fun _ h=>h.1));replace aa:=kK hk aa cy;replace as5:=kK hk as5 od;replace HK:=atm HK hk;replace HB:=k0 hb;replace ah:=k0 hi;obtain ⟨_,_⟩:=nE gh;obtain ⟨_,_⟩:=nE cy;obtain ⟨_,_,_,_⟩:=as9 aa)|(refine aX (N:=15) rfl ?_;refine jM 2 (N:=15) (xs:=([0,9,wrap64 (aE - 1)]:List Int)) (inner:=[.int .i64 0,.int .i64 9,.int .i64 (wrap64 (aE - 1))]) (aJ.one (show Kd.M (Kd.int .i64) _ _ _ 0 [.int .i64 0] from rfl) (aJ.one (show Kd.M (Kd.int .i64) _ _ _ 9 [.int .i64 9] from rfl) (aJ.one (show Kd.M (Kd.int .i64) _ _ _ (wrap64 (aE - 1)) [.int .i64 (wrap64 (aE - 1))] from rfl) (aJ.none _ _)))) ?_;intro Iq auL uI hb bR atf;clear bR atf;(first|rw [← xT.z] at uI|(simp only [Int.reduceToNat] at uI;rw [← xT.z] at uI));replace cT:=fl cT (Kd.bh uI) hb;have kS:=k0 (Kd.cg (Kd.rY (M:=fun k_=>(w.heap.size≤k_)) uI (b_ (aK HK.z)) (fun k_ h_=>h_)) (b_ (aK HK.z)));replace aa:=kB aa hb;replace as5:=kB as5 hb;replace HK:=eC HK hb;replace HB:=k0 (cu (aG (ag.ge ah.z) HB.z) hb);replace ah:=k0 (ag.below (aA ah.z) hb);clear hb uI;obtain ⟨zQ,Au,rfl⟩:=Kd.b9 kS.z)|(refine aT (f:=51) rfl ?_;refine gC (some 16) Try.func51 #[.pointer (some ⟨g,0,none⟩),.slice zQ yA.length Au] ?_;(with_reducible refine (gD.calls g asZ t104 t105 _ _ yA t109 t110 t111 w0 _ ?av ?ax ?bM ?bT ?iG A5.z).mono ?_);(case av=>exact aA ah.z);(case ax=>exact aG (ag.ge ah.z) HB.z);(case bM=>exact aC ((Kd.bD kS.z).2.2));(case bT=>exact (Kd.bD kS.z).2.1);(case iG=>exact yb (ag.lK ah.z kS.z (by decide)));rintro e sF ⟨rfl,hi,hb,hk⟩;refine ⟨_,rfl,?_⟩;replace cT:=k0 (Kd.bf (Kd.nC (Kd.bf (ok:=fun k_=>((((((ur k_∨w.heap.size≤k_))∧k_ ≠ g)∧k_ ≠ ay)∧k_ ≠ cY)∧some k_ ≠ (.slice zQ yA.length Au:Value).ownBlock)) (aV cT.z) (fun k_ aU=>(⟨aU,aU.1.1.1.2⟩:_∧k_ ≠ g))) hk (fun _ h=>h.2)) (fun _ h=>h.1));replace aa:=kK hk aa cy;replace as5:=kK hk as5 od;replace kS:=k0 (Kd.aH (Kd.atM (ag.apart (show ag w0 _ g asZ t104 t105 from aA ah.z) (aR kS.z) (by decide)) hk (fun _ h=>h.2)) (fun _ h=>h.1));replace HK:=atm HK hk;replace HB:=k0 hb;replace ah:=k0 hi;obtain ⟨_,_,_,_⟩:=as9 aa;obtain ⟨_,_⟩:=nE od;obtain ⟨_,_,_,_⟩:=as9 as5))
 refine bodyPost_ret (results_cell_row rfl _ _ cY 26 #[.int .i64 t109,.slice atb az.length atc] (0,0) _ rfl kZ Try.underlying26 rfl (by kernel_rfl)) rfl ?_
 exact ⟨_,eR,aV (Kd.bf (Kd.iO (p:=⟨cY,1,none⟩) (Kd.iO (p:=⟨cY,0,none⟩) (Kd.iO (p:=⟨ay,0,none⟩) (Kd.bf (Kd.bf cT.z (fun k_ hk=>(⟨hk,hk.1.1.2⟩:_∧k_ ≠ ay))) (fun k_ hk=>(⟨hk,hk.1.1.2⟩:_∧k_ ≠ cY))) (fun _ hk=>hk.1.2) (.int .i64 t109)) (fun _ hk=>hk.2) (.int .i64 t109)) (fun _ hk=>hk.2) (.slice atb az.length atc)) (fun _ hk=>hk.1.1.1.1.1.1)),aA ah.z,aG (ag.ge ah.z) HB.z,aK HK.z⟩
/-! ### F127: function 127 -/
def BD.f  : Option (List ByteArray):=some (([(⟨#[112,111,105,110,116]⟩:ByteArray),(⟨#[101,100,103,101]⟩:ByteArray),(⟨#[108,111,111,112]⟩:ByteArray),(⟨#[98,111,117,113,117,101,116]⟩:ByteArray),(⟨#[116,104,101,116,97]⟩:ByteArray),(⟨#[100,117,109,98,98,101,108,108]⟩:ByteArray),(⟨#[116,114,105,97,110,103,108,101]⟩:ByteArray),(⟨#[115,113,117,97,114,101]⟩:ByteArray),(⟨#[112,101,110,116,97,103,111,110]⟩:ByteArray),(⟨#[115,116,97,114]⟩:ByteArray),(⟨#[100,105,97,109,111,110,100]⟩:ByteArray),(⟨#[116,101,116,114,97,104,101,100,114,111,110]⟩:ByteArray),(⟨#[112,114,105,115,109]⟩:ByteArray),(⟨#[104,111,117,115,101,115]⟩:ByteArray)]:List ByteArray))
theorem BD.calls  (r : List ByteArray) (w : World) (h : BD.f  = some r) :
  Calls Try.prog 127 #[] w fun e w'=>∃ ati:Value,e=.returned (ati)∧Kd.R Kd.string 9 w' w.heap.size (fun _=>True) ati r∧Below w.heap.size w w':=by
 have HB:=k0 (Below.refl w.heap.size w)
 unfold BD.f at h
 have H:=h
 clear h
 obtain ⟨atN,gH⟩:=nY (([(⟨#[112,111,105,110,116]⟩:ByteArray),(⟨#[101,100,103,101]⟩:ByteArray),(⟨#[108,111,111,112]⟩:ByteArray),(⟨#[98,111,117,113,117,101,116]⟩:ByteArray),(⟨#[116,104,101,116,97]⟩:ByteArray),(⟨#[100,117,109,98,98,101,108,108]⟩:ByteArray),(⟨#[116,114,105,97,110,103,108,101]⟩:ByteArray),(⟨#[115,113,117,97,114,101]⟩:ByteArray),(⟨#[112,101,110,116,97,103,111,110]⟩:ByteArray),(⟨#[115,116,97,114]⟩:ByteArray),(⟨#[100,105,97,109,111,110,100]⟩:ByteArray),(⟨#[116,101,116,114,97,104,101,100,114,111,110]⟩:ByteArray),(⟨#[112,114,105,115,109]⟩:ByteArray),(⟨#[104,111,117,115,101,115]⟩:ByteArray)]:List ByteArray):List ByteArray)
 replace H:(some atN)=some r:=rH gH.z H
 obtain rfl:=Option.some.inj H
 go_enter Try.func127,Try.ntmps127
 go_wp2_with (first|(refine aX (N:=1) rfl ?_;refine Kd.B1 Kd.string _ 9 ?hg (N:=1) ?hd (xs:=([(⟨#[112,111,105,110,116]⟩:ByteArray),(⟨#[101,100,103,101]⟩:ByteArray),(⟨#[108,111,111,112]⟩:ByteArray),(⟨#[98,111,117,113,117,101,116]⟩:ByteArray),(⟨#[116,104,101,116,97]⟩:ByteArray),(⟨#[100,117,109,98,98,101,108,108]⟩:ByteArray),(⟨#[116,114,105,97,110,103,108,101]⟩:ByteArray),(⟨#[115,113,117,97,114,101]⟩:ByteArray),(⟨#[112,101,110,116,97,103,111,110]⟩:ByteArray),(⟨#[115,116,97,114]⟩:ByteArray),(⟨#[100,105,97,109,111,110,100]⟩:ByteArray),(⟨#[116,101,116,114,97,104,101,100,114,111,110]⟩:ByteArray),(⟨#[112,114,105,115,109]⟩:ByteArray),(⟨#[104,111,117,115,101,115]⟩:ByteArray)]:List ByteArray)) (inner:=[.string (⟨#[112,111,105,110,116]⟩:ByteArray),.string (⟨#[101,100,103,101]⟩:ByteArray),.string (⟨#[108,111,111,112]⟩:ByteArray),.string (⟨#[98,111,117,113,117,101,116]⟩:ByteArray),.string (⟨#[116,104,101,116,97]⟩:ByteArray),.string (⟨#[100,117,109,98,98,101,108,108]⟩:ByteArray),.string (⟨#[116,114,105,97,110,103,108,101]⟩:ByteArray),.string (⟨#[115,113,117,97,114,101]⟩:ByteArray),.string (⟨#[112,101,110,116,97,103,111,110]⟩:ByteArray),.string (⟨#[115,116,97,114]⟩:ByteArray),.string (⟨#[100,105,97,109,111,110,100]⟩:ByteArray),.string (⟨#[116,101,116,114,97,104,101,100,114,111,110]⟩:ByteArray),.string (⟨#[112,114,105,115,109]⟩:ByteArray),.string (⟨#[104,111,117,115,101,115]⟩:ByteArray)]) (ok:=fun _=>True) (cm:=fun _=>True) ?hr ?hp (fun _ hk=>hk) trivial (Below.refl _ _) (Nat.le_refl _) (by simp) ?_;(case hd=>rfl);(case hg=>rfl);(case hr=>first|(go_simp;done)|(go_simp;rfl));(case hp=>exact (aJ.one (show Kd.M Kd.string _ _ _ (⟨#[112,111,105,110,116]⟩:ByteArray) [.string (⟨#[112,111,105,110,116]⟩:ByteArray)] from rfl) (aJ.one (show Kd.M Kd.string _ _ _ (⟨#[101,100,103,101]⟩:ByteArray) [.string (⟨#[101,100,103,101]⟩:ByteArray)] from rfl) (aJ.one (show Kd.M Kd.string _ _ _ (⟨#[108,111,111,112]⟩:ByteArray) [.string (⟨#[108,111,111,112]⟩:ByteArray)] from rfl) (aJ.one (show Kd.M Kd.string _ _ _ (⟨#[98,111,117,113,117,101,116]⟩:ByteArray) [.string (⟨#[98,111,117,113,117,101,116]⟩:ByteArray)] from rfl) (aJ.one (show Kd.M Kd.string _ _ _ (⟨#[116,104,101,116,97]⟩:ByteArray) [.string (⟨#[116,104,101,116,97]⟩:ByteArray)] from rfl) (aJ.one (show Kd.M Kd.string _ _ _ (⟨#[100,117,109,98,98,101,108,108]⟩:ByteArray) [.string (⟨#[100,117,109,98,98,101,108,108]⟩:ByteArray)] from rfl) (aJ.one (show Kd.M Kd.string _ _ _ (⟨#[116,114,105,97,110,103,108,101]⟩:ByteArray) [.string (⟨#[116,114,105,97,110,103,108,101]⟩:ByteArray)] from rfl) (aJ.one (show Kd.M Kd.string _ _ _ (⟨#[115,113,117,97,114,101]⟩:ByteArray) [.string (⟨#[115,113,117,97,114,101]⟩:ByteArray)] from rfl) (aJ.one (show Kd.M Kd.string _ _ _ (⟨#[112,101,110,116,97,103,111,110]⟩:ByteArray) [.string (⟨#[112,101,110,116,97,103,111,110]⟩:ByteArray)] from rfl) (aJ.one (show Kd.M Kd.string _ _ _ (⟨#[115,116,97,114]⟩:ByteArray) [.string (⟨#[115,116,97,114]⟩:ByteArray)] from rfl) (aJ.one (show Kd.M Kd.string _ _ _ (⟨#[100,105,97,109,111,110,100]⟩:ByteArray) [.string (⟨#[100,105,97,109,111,110,100]⟩:ByteArray)] from rfl) (aJ.one (show Kd.M Kd.string _ _ _ (⟨#[116,101,116,114,97,104,101,100,114,111,110]⟩:ByteArray) [.string (⟨#[116,101,116,114,97,104,101,100,114,111,110]⟩:ByteArray)] from rfl) (aJ.one (show Kd.M Kd.string _ _ _ (⟨#[112,114,105,115,109]⟩:ByteArray) [.string (⟨#[112,114,105,115,109]⟩:ByteArray)] from rfl) (aJ.one (show Kd.M Kd.string _ _ _ (⟨#[104,111,117,115,101,115]⟩:ByteArray) [.string (⟨#[104,111,117,115,101,115]⟩:ByteArray)] from rfl) (aJ.none _ _))))))))))))))));intro nO w1 auj hb bR atf;clear bR atf;(first|rw [← gH.z] at auj|(simp only [Int.reduceToNat] at auj;rw [← gH.z] at auj));have eV:=k0 (Kd.cg auj (as8 bl));replace HB:=bW hb;clear hb auj))
 go_ret
 exact ⟨_,eR,aR eV.z,bl⟩
/-! ### F61: function 61 -/
def eY.f (a0:Int) (a1:Int) (a2:Int):Option (Bool):=if a0 ≥ a1 then (some (decide (a0≤a2))) else (some false)
theorem eY.calls (a0 : Int) (a1 : Int) (a2 : Int) (r : Bool) (w : World) (h : eY.f a0 a1 a2 = some r) :
  Calls Try.prog 61 #[.int .i64 a0,.int .i64 a1,.int .i64 a2] w fun e w'=>e=.returned (.bool r)∧iV w w':=by
 unfold eY.f at h
 have H:=h
 clear h
 replace H:=iC H;obtain ⟨gI,H⟩|⟨gI,H⟩:=H
 case inl =>
  obtain rfl:=Option.some.inj H
  go_enter Try.func61,Try.ntmps61
  go_wp2
  go_ret
  exact ⟨rs,dW⟩
 obtain rfl:=Option.some.inj H
 go_enter Try.func61,Try.ntmps61
 go_wp2
 go_ret
 exact ⟨rs,dW⟩
end Go.Proofs.Ytapnggjaeehpdaa.B
/- Set with little white space, by a program. -/
