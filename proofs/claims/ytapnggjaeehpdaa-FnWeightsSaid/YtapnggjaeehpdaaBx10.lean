/- Go's calls come to what the Lean functions say. Condition of each: that the Lean function answers. -/
import Derived.Test.YtapnggjaeehpdaaBx0
namespace Go.Proofs.Ytapnggjaeehpdaa.B
open Go.RowKit Go.Proofs.bz.dI Go.Proofs.bz.iY Go.Proofs.bz.jn
attribute [local go_sem] max2_int min2_int max_two min_two max_three min_three max_four min_four
set_option linter.unusedVariables false
set_option linter.unusedSimpArgs false
set_option maxHeartbeats 8000000
set_option maxRecDepth 100000
/-! ### F117: function 117 -/
theorem UL (w:World) (a:Option Addr) (n c:Nat):(binOp .eql 29 (.slice a n c) (.slice none 0 0)).run Try.prog w=.ok (.bool a.isNone) w:=Lib.run_eql_slice_nil w _ _ a n c 0 0 Try.underlying29
def ue.f (l0:List Int):Option (List Int):=if l0.length < 17592186044416 then some l0 else none
theorem ue.calls (A0 : Option Addr) (c0 : Nat) (l0 : List Int) (r : List Int) (w : World) (bX : Kd.C (Kd.int .i64) w A0 l0.length l0) (hc0 : l0.length ≤ c0) (h : ue.f l0 = some r) :
  Calls Try.prog 117 #[.slice A0 l0.length c0] w fun e w'=>∃ ati:Value,e=.returned (ati)∧Kd.R (Kd.int .i64) 2 w' w.heap.size (fun _=>True) ati r∧Below w.heap.size w w':=by
 have dh:=k0 bX
 have gG:=k0 hc0
 clear bX hc0
 unfold ue.f at h
 by_cases c2:l0.length < 17592186044416
 case neg =>
  rw [if_neg c2] at h
  exact absurd h (by simp)
 rw [if_pos c2] at h
 obtain rfl:=Option.some.inj h
 clear h
 cases A0 with
 | none =>
  have hn:l0=[]:=by
   by_cases hz:l0.length=0
   case neg =>
    obtain ⟨ad,e,_⟩:=Kd.bK dh.z 0 (by omega) (by omega)
    cases e
   exact List.eq_nil_of_length_eq_zero hz
  subst hn
  have q_:=UL
  go_enter Try.func117,Try.ntmps117
  go_wp2
  go_ret
  exact ⟨_,rfl,Kd.rZ _ _ _ _ _,Below.refl _ _⟩
 | some ad =>
  have HB:=k0 (Below.refl w.heap.size w)
  have Nf:=k0 c2
  clear c2
  have q_:=UL
  go_enter Try.func117,Try.ntmps117
  go_wp2_with (first|(refine aX (N:=5) rfl ?_;refine jM 2 (N:=5) (xs:=([]:List Int)) (inner:=[]) (aJ.none _ _) ?_;intro nO w3 fM hb bR atf;clear bR atf;have eV:=k0 (Kd.cg fM (as8 bl));replace HB:=bW hb;clear hb fM)|((with_reducible refine ji (b:=.append) (xs:=#[.tmp 5,.tmp 6]) rfl ?_);at_builtin;refine Kd.TA (Kd.int .i64) (w0:=w) w.heap.size rfl (.tmp 5) (.tmp 6) 29 2 (.int .i64 0) 8 rfl Try.underlying29 ju rfl (by decide) (by omega) nO ([]:List Int) l0 _ _ _ (fun _=>True) (fun _=>False) rfl rfl ?aO ?aR (fun _ _ h=>h) (fun _ h=>h.elim) ?aF ?aB ?aS ?aL ?_;(case aR=>repeat (first|exact (Kd.bL dh.z HB.z)|(with_reducible refine Kd.jO ?_ _)|(with_reducible refine Kd.jP ?_ _)|(with_reducible refine Kd.ij ?_)));(case aB=>exact bl);(case aF=>exact (fun _ _=>trivial));(case aO=>exact (aR eV.z));(case aS=>exact (as8 bl));(case aL=>have:=Nf.out;simp;omega);intro qV w5 ho hb hg a_;rw [List.nil_append] at ho;replace HB:=k0 hb;have dG:=k0 ho;clear eV;clear ho hb hg a_))
  go_ret
  exact ⟨_,by first|rfl|(simp;done),aR dG.z,bl⟩
/-! ### F118: function 118 -/
def nv.l0 : Nat → List Int → Option (List Int)
 | 0,_=>none
 | k+1,x0=>if (x0.length:Int) > 0 then (if 0≤(wrap64 ((x0.length:Int) - 1)) then (if (wrap64 ((x0.length:Int) - 1)) < (x0.length:Int) then (if (rd x0 (wrap64 ((x0.length:Int) - 1)))=0 then (if (wrap64 ((x0.length:Int) - 1))≤(x0.length:Int) then (nv.l0 k (x0.take ((wrap64 ((x0.length:Int) - 1)):Int).toNat)) else (none)) else ((ue.f x0).bind fun t107=>(some t107))) else (none)) else (none)) else ((ue.f x0).bind fun t110=>(some t110))
def nv.f (k:Nat) (l0:List Int):Option (List Int):=nv.l0 k l0
theorem nv.calls (k : Nat) (Nw : Nat → Prop) (A0 : Option Addr) (c0 : Nat) (l0 : List Int) (r : List Int) (w : World) (hs0 : Kd.V (Kd.int .i64) 2 w w.heap.size (fun k_ => Nw k_) (.slice A0 l0.length c0) l0) (h : nv.f k l0 = some r) :
  Calls Try.prog 118 #[.slice A0 l0.length c0] w fun e w'=>∃ ati:Value,e=.returned (ati)∧Kd.R (Kd.int .i64) 2 w' w.heap.size (fun k_=>(w.heap.size≤k_)) ati r∧Below w.heap.size w w':=by
 have HO0:=k0 (show Kd.V (Kd.int .i64) 2 w w.heap.size (fun k_=>(Nw k_∨w.heap.size≤k_)) (.slice A0 l0.length c0) l0 from Kd.bf hs0 (fun k_ hk=>.inl hk))
 have HB:=k0 (Below.refl w.heap.size w)
 unfold nv.f at h
 have H:=h
 clear h
 have H':=k0 H
 clear H
 go_enter Try.func118,Try.ntmps118
 go_wp2
 go_loopg [0] k (fun kq v0 w'=>∃ (iR:List Int),af (nv.l0 kq iR=some r)∧af (kq≤k)∧af (Kd.V (Kd.int .i64) 2 w' w.heap.size (fun k_=>(Nw k_∨w.heap.size≤k_)) v0 iR)∧af (Below w.heap.size w w'))
 case atStart=>exact ⟨(l0),H',⟨Nat.le_refl _⟩,⟨aV (HO0.z)⟩,⟨bl⟩⟩
 case round =>
  clear H'
  obtain ⟨iR,HA,as3,ri,HB⟩:=hrel
  cases gk with
  | zero=>exact absurd HA.z (by simp [nv.l0])
  | succ k1 =>
   have H:=HA.z
   clear HA
   simp only [nv.l0] at H
   by_cases c2:(iR.length:Int) > 0
   case neg =>
    rw [if_neg c2] at H
    have Cg:=decide_eq_false c2
    have N2:decide (0 < iR.length)=false:=decide_eq_false (by omega)
    clear c2
    replace H:=bS H;obtain ⟨t110,Fo,H⟩:=H
    obtain rfl:=Option.some.inj H
    obtain ⟨Ft,m_,rfl⟩:=Kd.auA ri.z
    go_wp2_with (first|(refine aT (f:=117) rfl ?_;refine gC (some 21) Try.func117 #[.slice Ft iR.length m_] ?_;(with_reducible refine (ue.calls _ _ iR t110 _ ?av ?ax Fo.z).mono ?_);(case av=>exact aC ((Kd.gT ri.z).2.2));(case ax=>exact (Kd.gT ri.z).2.1);rintro e yp ⟨zx,rfl,as2,hb⟩;refine ⟨_,rfl,?_⟩;replace ri:=fl ri (Kd.bh as2) hb;have nw:=k0 (Kd.cg (Kd.rY (M:=fun k_=>(w.heap.size≤k_)) as2 (as8 bl) (fun k_ h_=>h_)) (as8 bl));replace HB:=bW hb))
    go_ret
    exact ⟨_,eR,aR (Kd.aH nw.z (fun _ hk=>hk.1)),bl⟩
   rw [if_pos c2] at H
   have Cg:=decide_eq_true c2
   have N2:decide (0 < iR.length)=true:=decide_eq_true (by omega)
   clear c2
   obtain ⟨bE,at7⟩:∃ j_:Int,(wrap64 ((iR.length:Int) - 1))=j_:=⟨_,rfl⟩
   replace H:(if 0≤(bE) then (if (bE) < (iR.length:Int) then (if (rd iR (bE))=0 then (if (bE)≤(iR.length:Int) then (nv.l0 k1 (iR.take ((bE):Int).toNat)) else (none)) else ((ue.f iR).bind fun t107=>(some t107))) else (none)) else (none))=some r:=by first|(rw [at7] at H;exact H)|(simp only [at7] at H ⊢;exact H)
   have Pv:(IntKind.i64.wrap ((iR.length:Int) - 1))=bE:=(bp _).trans at7
   replace H:=iS H;obtain ⟨c4,H⟩:=H
   have gI:=decide_eq_true c4
   clear c4
   replace H:=iS H;obtain ⟨c5,H⟩:=H
   have gJ:=decide_eq_true c5
   clear c5
   replace H:=iE H;obtain ⟨c6,iP,mY,H⟩|⟨iP,mY,H⟩:=H
   case inl =>
    replace H:=bS H;obtain ⟨t107,xE,H⟩:=H
    obtain rfl:=Option.some.inj H
    obtain ⟨nt,mZ,rfl⟩:=Kd.auA ri.z
    have atK:0≤((bE):Int):=oD
    have atL:(bE) < (iR.length:Int):=oD
    obtain ⟨ry,e101,pJ⟩:=Kd.bK (Kd.gT ri.z).2.2 (bE) atK atL
    cases e101
    replace atK:=eT atK
    replace atL:=eT atL
    go_wp2_with (first|(refine aT (f:=117) rfl ?_;refine gC (some 21) Try.func117 #[.slice (some ry) iR.length mZ] ?_;(with_reducible refine (ue.calls _ _ iR t107 _ ?av ?ax xE.z).mono ?_);(case av=>exact aC ((Kd.gT ri.z).2.2));(case ax=>exact (Kd.gT ri.z).2.1);rintro e rK ⟨xk,rfl,as2,hb⟩;refine ⟨_,rfl,?_⟩;replace ri:=fl ri (Kd.bh as2) hb;have fj:=k0 (Kd.cg (Kd.rY (M:=fun k_=>(w.heap.size≤k_)) as2 (as8 bl) (fun k_ h_=>h_)) (as8 bl));replace HB:=bW hb))
    go_ret
    exact ⟨_,by first|rfl|(simp [kG,kH]<;>rfl)|(simp only [← at7];first|rfl|(simp [kG,kH]<;>rfl))|(simp [*,kG,kH]<;>rfl),aR (Kd.aH fj.z (fun _ hk=>hk.1)),bl⟩
   have pn:=eq_true (oD:0≤(bE))
   replace H:=iS H;obtain ⟨c8,H⟩:=H
   have kX:=eq_true c8
   have tj:=decide_eq_true c8
   clear c8
   obtain ⟨mz,rq⟩:=nY (iR.take ((bE):Int).toNat:List Int)
   replace H:(nv.l0 k1 mz)=some r:=rH rq.z H
   have H':=k0 H
   clear H
   obtain ⟨nu,atP,rfl⟩:=Kd.auA ri.z
   have atK:0≤((bE):Int):=oD
   have atL:(bE) < (iR.length:Int):=oD
   obtain ⟨ry,e101,pJ⟩:=Kd.bK (Kd.gT ri.z).2.2 (bE) atK atL
   cases e101
   replace atK:=eT atK
   replace atL:=eT atL
   have QD:((bE):Int)≤((iR.length:Int):Int):=oD
   obtain ⟨i010,G6,_,Ks,_⟩:=info_parts ju
   have XX:iR.length≤atP:=(Kd.gT ri.z).2.1
   have GM:Kd.F (Kd.int .i64) _ _ (some ry) iR.length iR:=(Kd.JE (base:=w.heap.size) ri.z).2.2
   have WD:=UZ (P:=Try.prog) 29 2 .i64 Try.underlying29 G6 (some ry) iR.length atP (bE) oD QD XX
   have PF:=Kd.aaG (m:=((bE):Int).toNat) GM (by omega)
   have PS:mz.length=((bE):Int).toNat:=(by rw [rq.z,List.length_take];omega)
   rw [← rq.z] at PF
   rw [← PS] at WD
   have dG:=k0 (show Kd.V (Kd.int .i64) 2 _ w.heap.size _ (.slice (some ry) mz.length atP) mz from Kd.acU (by omega) PF)
   have DC:=k0 (show mz.length≤atP from by omega)
   clear PF GM XX G6 Ks
   have ani:=k0 PS
   clear PS
   replace QD:=eT QD
   go_wp2
   first|go_roundg k1|(simp only [← at7];go_roundg k1)
   case measure=>have:=as3.z;omega
   case rel=>exact ⟨(mz),(by first|exact H'|(rw [at7];exact H')),⟨by have:=as3.z;omega⟩,⟨aV (dG.z)⟩,⟨bl⟩⟩
end Go.Proofs.Ytapnggjaeehpdaa.B
/- Set with little white space, by a program. -/
