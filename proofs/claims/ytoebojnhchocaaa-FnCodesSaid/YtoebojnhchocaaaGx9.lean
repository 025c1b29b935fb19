/- The functions that one law reaches, each as a Lean function, and that Go's call comes to what it says. Condition of each: that the Lean function answers (is not none). -/
import Derived.Test.YtoebojnhchocaaaGx0
import Derived.Test.YtoebojnhchocaaaGx1
import Derived.Test.YtoebojnhchocaaaGx6
import Derived.Test.YtoebojnhchocaaaGx8
namespace Go.Proofs.Ytoebojnhchocaaa.G
open Go.RowKit Go.Proofs.cx.fq Go.Proofs.cx.jX Go.Proofs.cx.lu
attribute [local go_sem] max2_int min2_int max_two min_two max_three min_three max_four min_four   -- for this text's walks alone
set_option linter.unusedVariables false
set_option linter.unusedSimpArgs false
set_option maxHeartbeats 8000000
set_option maxRecDepth 100000
/-! ### F200: function 200 -/
def ju.l0 : Nat → List Int → Int → Int → Int → Option (Int)
 | 0,_,_,_,_=>none
 | k+1,x0,x1,x7,x8=>if x8 < x7 then (if 0≤x8 then (if x8 < (x0.length:Int) then (if x1=(rd x0 x8) then (some x8) else (ju.l0 k x0 x1 x7 (wrap64 (x8+1)))) else (none)) else (none)) else (some (-1))
def ju.f (k:Nat) (l0:List Int) (a1:Int):Option (Int):=ju.l0 k l0 a1 (l0.length:Int) 0
theorem ju.cC : ∀ k, (∀ y0 y1 y2 y3, ag (ju.l0 k y0 y1 y2 y3) (ju.l0 (k + 1) y0 y1 y2 y3))
 | 0=>fun _ _ _ _ r h=>by simp [ju.l0] at h
 | k+1=>by
  have a_:=ju.cC k
  ·intro y0 y1 y2 y3
   unfold ju.l0
   repeat' first
    | (with_reducible first|exact a_ _ _ _ _|exact ag.refl _|exact ag.none _|refine ag.ite ?_ ?_|refine ag.bind ?_ (fun _=>?_))
    | exact a_ _ _ _ _|exact ag.none _|refine ag.ite ?_ ?_|refine ag.bind ?_ (fun _=>?_)
theorem ju.mono:∀ a0 a1 k,ag (ju.f k a0 a1) (ju.f (k+1) a0 a1):=by
 intro a0 a1 k
 have a_:=ju.cC k
 unfold ju.f
 repeat' first
  | (with_reducible first|exact a_ _ _ _ _|exact ag.refl _|exact ag.none _|refine ag.ite ?_ ?_|refine ag.bind ?_ (fun _=>?_))
  | exact a_ _ _ _ _|exact ag.none _|refine ag.ite ?_ ?_|refine ag.bind ?_ (fun _=>?_)
theorem ju.calls (k : Nat) (A0 : Option Addr) (c0 : Nat) (l0 : List Int) (a1 : Int) (r : Int) (w : World) (cL : Kd.C (Kd.int .i64) w A0 l0.length l0) (hc0 : l0.length ≤ c0) (h : ju.f k l0 a1 = some r) :
  Calls Try.prog 200 #[.slice A0 l0.length c0,.int .i64 a1] w fun e w'=>e=.returned (.int .i64 r)∧aod w w':=by
 have dh:=k0 cL
 have fI:=k0 hc0
 clear cL hc0
 have H:(ju.l0 k l0 a1 (l0.length:Int) 0)=some r:=h
 clear h
 have H':=k0 H
 clear H
 go_enter Try.func200,Try.ntmps200
 go_wp2
 go_loopg [8] k (fun kq v8 w'=>∃ (ct:Int),v8=.int .i64 ct∧ak (ju.l0 kq l0 a1 (l0.length:Int) ct=some r)∧ak (kq≤k)∧aod w w')
 case atStart=>exact ⟨(0),rs,H',⟨Nat.le_refl _⟩,dW⟩
 case round =>
  clear H'
  obtain ⟨ct,rfl,HA,bH,⟨m1,rfl⟩⟩:=hrel
  cases gk with
  | zero=>exact absurd HA.z (by simp [ju.l0])
  | succ k1 =>
   have H:=HA.z
   clear HA
   simp only [ju.l0] at H
   by_cases c3:ct < (l0.length:Int)
   case neg =>
    rw [if_neg c3] at H
    have jZ:decide (ct < (l0.length:Int))=false:=decide_eq_false c3
    clear c3
    obtain rfl:=Option.some.inj H
    go_wp2
    go_ret
    exact ⟨rs,dW⟩
   rw [if_pos c3] at H
   have jZ:=decide_eq_true c3
   clear c3
   replace H:=iS H;obtain ⟨c4,H⟩:=H
   have gT:=decide_eq_true c4
   clear c4
   replace H:=iS H;obtain ⟨c5,H⟩:=H
   have aoo:=decide_eq_true c5
   clear c5
   by_cases c6:a1=(rd l0 ct)
   case neg =>
    rw [if_neg c6] at H
    have iD:(a1 == (rd l0 ct))=false:=beq_eq_false_iff_ne.mpr c6
    have oF:(a1 != (rd l0 ct))=true:=bne_iff_ne.mpr c6
    have H':=k0 H
    clear H
    have ep:0≤(ct:Int):=oD
    have er:ct < (l0.length:Int):=oD
    obtain ⟨lA,e101,kF⟩:=Kd.cm dh.z ct ep er
    cases e101
    replace ep:=eq_true ep
    replace er:=eq_true er
    go_wp2
    go_roundg k1
    case measure=>have:=bH.z;omega
    case rel=>exact ⟨(wrap64 (ct+1)),rs,H',⟨by have:=bH.z;omega⟩,dW⟩
   rw [if_pos c6] at H
   have iD:(a1 == (rd l0 ct))=true:=beq_iff_eq.mpr c6
   have oF:(a1 != (rd l0 ct))=false:=bne_eq_false_iff_eq.mpr c6
   clear c6
   obtain rfl:=Option.some.inj H
   have ep:0≤(ct:Int):=oD
   have er:ct < (l0.length:Int):=oD
   obtain ⟨lA,e101,kF⟩:=Kd.cm dh.z ct ep er
   cases e101
   replace ep:=eq_true ep
   replace er:=eq_true er
   go_wp2
   go_ret
   exact ⟨rs,dW⟩
/-! ### F118: function 118 -/
def mF.f (k:Nat) (l0:List Int) (a1:Int):Option (Bool):=(ju.f k l0 a1).bind fun t101=>(some (decide (t101 ≥ 0)))
theorem mF.mono:∀ a0 a1 k,ag (mF.f k a0 a1) (mF.f (k+1) a0 a1):=by
 intro a0 a1 k
 unfold mF.f
 repeat' first
  | (with_reducible first|exact ju.mono _ _ _|exact ag.refl _|exact ag.none _|refine ag.ite ?_ ?_|refine ag.bind ?_ (fun _=>?_))
  | exact ju.mono _ _ _|exact ag.none _|refine ag.ite ?_ ?_|refine ag.bind ?_ (fun _=>?_)
theorem mF.calls (k : Nat) (A0 : Option Addr) (c0 : Nat) (l0 : List Int) (a1 : Int) (r : Bool) (w : World) (cL : Kd.C (Kd.int .i64) w A0 l0.length l0) (hc0 : l0.length ≤ c0) (h : mF.f k l0 a1 = some r) :
  Calls Try.prog 118 #[.slice A0 l0.length c0,.int .i64 a1] w fun e w'=>e=.returned (.bool r)∧aod w w':=by
 have dh:=k0 cL
 have fI:=k0 hc0
 clear cL hc0
 have H:((ju.f k l0 a1).bind fun t101=>(some (decide (t101 ≥ 0))))=some r:=h
 clear h
 replace H:=Option.bind_eq_some_iff.mp H
 obtain ⟨t101,fS,H⟩:=H
 replace H:(some (decide (t101 ≥ 0)))=some r:=H
 have A3:=k0 fS
 clear fS
 obtain rfl:=Option.some.inj H
 go_enter Try.func118,Try.ntmps118
 go_wp2_with (first|((with_reducible refine bS (f:=200) rfl ?_);refine gC (some 7) Try.func200 #[.slice A0 l0.length c0,.int .i64 a1] ?_;(with_reducible refine (ju.calls k _ _ l0 a1 t101 _ ?aA ?anD A3.z).mono ?_);(case aA=>exact aC dh.z);(case anD=>exact fI.z);rintro e w' ⟨rfl,⟨nd,rfl⟩⟩;refine ⟨_,rfl,?_⟩))
 go_ret
 exact ⟨rs,dW⟩
/-! ### F42: function 42 -/
mutual
def dG.l0 : Nat → Int → List (List Int) → List Int → List Int → Option (List Int)
 | 0,_,_,_,_=>none
 | k+1,a,l,b,o=>if (o.length:Int)=a then ((dD.f k a l o).bind fun c=>(ja.f k c b).bind fun q=>if q < 0 then some c else some b) else dG.l1 k a l b o 0
def dG.l1 : Nat → Int → List (List Int) → List Int → List Int → Int → Option (List Int)
 | 0,_,_,_,_,_=>none
 | k+1,a,l,b,o,v=>if v < a then ((mF.f k o v).bind fun q=>if q=true then dG.l1 k a l b o (wrap64 (v+1)) else if o.length < 17592186044416 then (dG.l0 k a l b (o ++ [v])).bind fun b'=>dG.l1 k a l b' o (wrap64 (v+1)) else none) else some b
end
def dG.f (k:Nat) (au:Int) (ah:List (List Int)):Option (List Int × Int):=(fj.f k au ah).bind fun t=>if t=true then (if au > 6 then some (([]:List Int),3) else (gP.f k au ah).bind fun o=>(dD.f k au ah o).bind fun b=>(dG.l0 k au ah b []).bind fun r=>some (r,0)) else some (([]:List Int),1)
theorem dG.cC : ∀ k, (∀ y0 y1 y2 y3, ag (dG.l0 k y0 y1 y2 y3) (dG.l0 (k + 1) y0 y1 y2 y3)) ∧ (∀ y0 y1 y2 y3 y4, ag (dG.l1 k y0 y1 y2 y3 y4) (dG.l1 (k + 1) y0 y1 y2 y3 y4))
 | 0=>⟨fun _ _ _ _ r h=>by simp [dG.l0] at h,fun _ _ _ _ _ r h=>by simp [dG.l1] at h⟩
 | k+1=>by
  obtain ⟨a_,ih1⟩:=dG.cC k
  refine ⟨?_,?_⟩
  ·intro y0 y1 y2 y3;unfold dG.l0;exact ag.ite (ag.bind (dD.mono _ _ _ _) (fun _=>ag.bind (ja.mono _ _ _) (fun _=>ag.refl _))) (ih1 _ _ _ _ _)
  ·intro y0 y1 y2 y3 y4;unfold dG.l1;exact ag.ite (ag.bind (mF.mono _ _ _) (fun _=>ag.ite (ih1 _ _ _ _ _) (ag.ite (ag.bind (a_ _ _ _ _) (fun _=>ih1 _ _ _ _ _)) (ag.none _)))) (ag.refl _)
theorem dG.mono:∀ a0 a1 k,ag (dG.f k a0 a1) (dG.f (k+1) a0 a1):=by
 intro a0 a1 k
 unfold dG.f
 exact ag.bind (fj.mono _ _ _) (fun _=>ag.ite (ag.ite (ag.refl _) (ag.bind (gP.mono _ _ _) (fun _=>ag.bind (dD.mono _ _ _ _) (fun _=>ag.bind ((dG.cC k).1 _ _ _ _) (fun _=>ag.refl _))))) (ag.refl _))
/- fill -/
theorem am0 {w:World} {base g cap n m:Nat} {e:TypeId} {size:Nat} {xs news:List Value} (hl:xs.length=n * size) (h:w.ownsRow base e size (.slice (some ⟨g,0,none⟩) (n+m) cap) (n+m) (xs ++ news)):w.ownsRow base e size (.slice (some ⟨g,0,none⟩) n cap) n xs:=by
 obtain ⟨h1,h2⟩:=h
 refine ⟨hl,.inr ?_⟩
 rcases h2 with ⟨h3,_⟩|⟨g',cap',cur,h3,hb,hg,hnc,uF,hcs,ht⟩
 ·cases h3
 ·injection h3 with h4 _ h5;injection h4 with h4;injection h4 with h4;subst h4 h5;refine ⟨_,_,cur,rfl,hb,hg,by omega,uF,hcs,?_⟩;have h6:=congrArg (List.take (n * size)) ht;rw [List.take_take,Nat.min_eq_left (Nat.mul_le_mul_right _ (by omega)),← hl,List.take_left] at h6;rw [← hl];exact h6
theorem aeI {P : Program} (w : World) (base : Nat) (t ty e : TypeId) (i : TypeInfo) (z : Value) (size bytes : Nat) (ht : P.underlying t = some (.slice e)) (hi : P.info? e = some i) (hz : i.zero = some z)
  (hsize:i.size=size) (hby:i.bytes=bytes) (hzs:z.cells.size=size) (hsz:0 < size)
  (v:Value) (n:Nat) (xs:List Value) (hown:w.ownsRow base e size v n xs)
  (a:Addr) (m c:Nat) (hm:0 < m) (news:List Value) (hl:news.length=m * size) (hnews:∀ j u,news[j]?=some u→w.cell? (a.add j)=some u) (h1:∀ u ∈ news,u.oneCell'=true)
  (h63:n+m≤maxLen) (hbytes:(n+m) * bytes≤140737488355328) (hbase:base≤w.heap.size) :
  ∃ v' w', (Builtin.append_ #[t, t] ty #[v, .slice (some a) m c]).run P w = .ok v' w' ∧ w'.ownsRow base e size v' (n + m) (xs ++ news) ∧
   ((∃ g cap,v=.slice (some ⟨g,0,none⟩) n cap∧v'=.slice (some ⟨g,0,none⟩) (n+m) cap∧w.grownBy w' (some g))∨(v'.ownBlock=some w.heap.size∧w.grownBy w' none)):=by
 obtain ⟨v',w',hr,h2,h3,_,h5⟩:=run_append_own_at (P:=P) w base t ty e i z size bytes ht hi hz hsize hby hzs hsz v n xs hown a m c news hl hnews h1 h63 hbytes hbase
 refine ⟨v',w',hr,h2,?_⟩
 obtain ⟨g',cap',e',_,_⟩:=h2.form (by omega)
 subst hsize hby
 rcases hown.2 with ⟨rfl,rfl⟩|⟨g,cap,cur,rfl,_,hg,hnc,_,hcs,_⟩
 ·refine .inr ⟨?_, h3⟩
  rcases h5 with h5|h5
  ·rw [e'] at h5;cases h5
  ·exact h5
 ·by_cases hroom : n + m ≤ cap
  ·have hq:=run_append_room (P:=P) w t ty e i ht hi g n cap cur hg a m c news hl hnews h1 hroom (by rw [hl,hcs,← Nat.add_mul];exact Nat.mul_le_mul_right _ hroom);have hv:=hr.symm.trans hq;injection hv with hv _;exact .inl ⟨g,cap,rfl,hv,h3⟩
  ·have hq := run_append_grow (P := P) w t ty e i z ht hi hz ⟨g, 0, none⟩ n cap xs hown.1 (hown.cells (g := g) rfl) a m c news hl hnews (by omega) (by simp only [maxLen] at h63; omega) (growslice_fits (by omega) hbytes)
   have hv:=hr.symm.trans hq
   injection hv with hv hw
   subst hv hw
   exact .inr ⟨rfl,⟨rfl,rfl,rfl,by simp,fun k hk _=>by first|exact heap_alloc_old w.drew _ hk|exact heap_alloc_old w.drew _ k hk⟩⟩
/-- The same at a step of a region that draws, in any world where the element's block is known. -/
theorem aeT {ops : Array Oper} {od : Oper} {ac : Act} {K : Act → World → Prop} {Q : Exit → Act → World → Prop} {E : Prop} {W : World} (hgd : od.guard = none) (s x : Operand) (ho : od.op = .call { callee := .builtin .append, args := #[s, x], argTypes := #[28, 28] }) (base : Nat) (oA : Option Addr) (oc : Nat) (os : List Int) (p : Int) (ok : Nat → Prop) (B : Nat) (hs : ac.eval s = .slice oA os.length oc) (hx : ac.eval x = .slice (some ⟨B, 0, none⟩) 1 1) (hB : W.heap[B]? = some (.cells #[.int .i64 p] 2 (0, 0))) (HO : Kd.R (Kd.int .i64) 2 W base ok (.slice oA os.length oc) os) (hbase : base ≤ W.heap.size) (kr : ∀ k, W.heap.size ≤ k → ok k) (hl : os.length < 17592186044416)
  (h:∀ v1 w1,Kd.R (Kd.int .i64) 2 w1 base ok v1 (os ++ [p])→((∃ g cap,Value.slice oA os.length oc=.slice (some ⟨g,0,none⟩) os.length cap∧v1=.slice (some ⟨g,0,none⟩) (os.length+1) cap∧W.grownBy w1 (some g))∨(v1.ownBlock=some W.heap.size∧W.grownBy w1 none))→K (ac.put od.dst v1) w1):if Region.wanted od (yielded ops ac.tmps)=true then Oper.wp Try.prog od ac W K Q else E:=by
 have hw:Region.wanted od (yielded ops ac.tmps)=true:=by simp [Region.wanted,hgd]
 rw [if_pos hw]
 obtain ⟨h0,inner,hown,hr⟩:=HO
 obtain ⟨i,hi,hz,hsz,hby⟩:=info_parts aoj
 obtain ⟨v1,w1,hrun,Fx,hd⟩:=aeI (P:=Try.prog) W base 28 od.type 2 i (.int .i64 0) 1 8 Try.underlying28 hi hz hsz hby rfl (by omega) (.slice oA os.length oc) os.length inner hown ⟨B,0,none⟩ 1 1 (by omega) [.int .i64 p] rfl (World.news_of_block hB) (by intro u hu;rw [List.mem_singleton.1 hu];rfl) (by simp only [maxLen];omega) (by omega) hbase
 unfold Oper.wp execOp
 simp only [ho,resolve,invoke,builtin,Sem.run_bind,Sem.run_pure,Result.andThen_ok,List.map_toArray,List.map_cons,List.map_nil,hs,hx,hrun]
 refine h v1 w1 (Kd.H7 (anX:=fun _=>False) (cs:=[.int .i64 p]) h0 hr ?_ (fun _ hk=>hk.elim) (fun k hk=>kr k (by omega)) Fx ?_ ?_) hd
 ·exact rfl
 ·rcases hd with ⟨g, cap, e, _, hg⟩ | ⟨_, hg⟩
  ·rw [e];exact hg
  ·exact ⟨hg.os,hg.tape,hg.output,hg.size,fun k hk _=>hg.block k hk (by simp)⟩
 ·rcases hd with ⟨g, cap, e, e2, _⟩ | ⟨e2, _⟩
  ·rw [e,e2];exact .inl rfl
  ·exact .inr ⟨_,e2,Nat.le_refl _⟩
theorem N7 {w:World} {base:Nat} {ok:Nat→Prop} {v:Value} {xs:List Int} (h:Kd.R (Kd.int .i64) 2 w base ok v xs):∀ k,v.ownBlock=some k→base≤k:=by
 obtain ⟨_,inner,hown,_⟩:=h
 rcases hown.2 with ⟨rfl,_⟩|⟨g,cap,cur,rfl,hb,_⟩
 ·intro k hk;cases hk
 ·intro k hk;injection hk with hk;subst hk;exact hb
/-- What the closure leaves in best's box is what was there, or new. -/
def Nb (w:World) (bv bv':Value):Prop:=∀ k,bv'.ownBlock=some k→bv.ownBlock=some k∨w.heap.size≤k
theorem Nb.refl (w:World) (bv:Value):Nb w bv bv:=fun _ h=>.inl h
theorem Nb.trans {w w1:World} {a b c:Value} (h:Nb w a b) (h2:Nb w1 b c) (hs:w.heap.size≤w1.heap.size):Nb w a c:=fun k hk=>by
 rcases h2 k hk with h3|h3
 ·exact h k h3
 ·exact .inr (by omega)
/-- What the closure finds, and what it leaves. -/
structure jP (w0 w:World) (bg bb bf:Nat) (a:Int) (A:Option Addr) (c:Nat) (l:List (List Int)) (bv ov:Value) (b o:List Int):Prop where
 hb:Below w0.heap.size w0 w
 g:w.heap[bg]?=some (sO a A l c 31)
 be:w.heap[bb]?=some (.cells #[bv] 28 (0,0))
 fi:w.heap[bf]?=some (.cells #[.func (.func 116) #[] #[.pointer (some ⟨bg,0,none⟩),.pointer (some ⟨bb,0,none⟩),.pointer (some ⟨bf,0,none⟩)]] 100 (0,0))
 gb:bg ≠ bb
 fb:bf ≠ bb
 lb:w0.heap.size≤bb
 best:Kd.R (Kd.int .i64) 2 w w0.heap.size (fun k=>(k ≠ bb∧k ≠ bg∧k ≠ bf)∧some k ≠ ov.ownBlock) bv b
 ord:Kd.R (Kd.int .i64) 2 w w0.heap.size (fun k=>k ≠ bb∧k ≠ bg∧k ≠ bf) ov o
theorem ZQ (w0 w : World) (bg bb bf : Nat) (a : Int) (A : Option Addr) (c : Nat) (l : List (List Int)) (bv : Value) (oA : Option Addr) (oc : Nat) (b o cd : List Int) (q : Int) (k : Nat) (hr : Kd.C (Kd.slice 2 (Kd.int .i64)) w0 A l.length l) (hc : l.length ≤ c) (h : jP w0 w bg bb bf a A c l bv (.slice oA o.length oc) b o) (ha : (o.length : Int) = a) (hcd : dD.f k a l o = some cd) (hq : ja.f k cd b = some q) :
  Calls Try.prog 116 #[.slice oA o.length oc,.pointer (some ⟨bg,0,none⟩),.pointer (some ⟨bb,0,none⟩),.pointer (some ⟨bf,0,none⟩)] w fun e w'=>e=.returned (.tuple #[])∧(∃ bv',jP w0 w' bg bb bf a A c l bv' (.slice oA o.length oc) (if q < 0 then cd else b) o∧Nb w bv bv')∧aM w w' bb (Value.slice oA o.length oc).ownBlock:=by
 obtain ⟨hb,g,be,fi,gb,fb,lb,best,ord⟩:=h
 have BG:=k0 g
 have BB:=k0 be
 have g0:=(eX g 0).trans rfl
 have g1:=(eX g 1).trans rfl
 have g2:=(eX be 0).trans rfl
 have f0:=lC g 0
 have f1:=lC g 1
 have f2:=lC be 0
 simp only [List.getElem?_toArray,List.getElem?_cons_zero,List.getElem?_cons_succ] at g0 g1 g2
 have hd:=decide_eq_true ha
 clear g be
 obtain ⟨bA,bc,rfl⟩:=Kd.cK best
 have HC:=k0 hcd
 have HQ:=k0 hq
 have HO:=k0 ord
 have M9:=k0 best
 have HB:=k0 hb
 clear hcd hq ord best hb
 have RO:=Kd.anT HO.z
 have uf:=k0 RO
 have BF:=k0 fi
 clear RO fi
 by_cases Dk:q < 0
 case neg =>
  have hqd:=decide_eq_false Dk
  go_enter Try.func116,Try.ntmps116
  go_wp2_with (first
   | ((with_reducible refine bS (f:=114) rfl ?_);refine gC (some 14) Try.func114 #[.agg #[.int .i64 a,.slice A l.length c],.slice oA o.length oc] ?_;refine (dD.calls k a _ _ l oA oc o cd _ ?aA hc ?anD ?cP HC.z).mono ?_;(case aA=>exact Kd.dU hr HB.z);(case anD=>exact uf.z.2.2);(case cP=>exact uf.z.2.1);rintro e w2 ⟨cv,rfl,hR,pq⟩;refine ⟨_,rfl,?_⟩;obtain ⟨cA,cc,rfl⟩:=Kd.cK hR;have Bu:=k0 pq;have xb:=k0 hR;have zK:=k0 (Kd.dg M9.z pq);have Hs:=k0 (Kd.dg HO.z pq);have Bp:=k0 (cB BG.out pq);have ao7:=k0 (cB BB.out pq);have GX:=k0 (cB BF.out pq);have j0:w2.cell? ⟨bg,0,none⟩=some (.int .i64 a):=(eX Bp.out 0).trans rfl;have j2:w2.cell? ⟨bb,0,none⟩=some (.slice bA b.length bc):=(eX ao7.out 0).trans rfl;have j3:=lC ao7.out 0;clear pq hR)
   | ((with_reducible refine bS (f:=117) rfl ?_);refine gC (some 17) Try.func117 #[.slice cA cd.length cc,.slice bA b.length bc] ?_;refine (ja.calls k cA cc cd bA bc b q _ (Kd.anT xb.z).2.2 (Kd.anT xb.z).2.1 (Kd.anT zK.z).2.2 (Kd.anT zK.z).2.1 HQ.out).mono ?_;rintro e w3 ⟨rfl,nd,rfl⟩;refine ⟨_,rfl,?_⟩))
  (try simp only [Exit.inBlock,Exit.then]);refine bodyPost_ret (results_none rfl _ _ _) rfl ?_
  exact ⟨rfl,⟨.slice bA b.length bc,⟨bq (anH HB.z Bu.z) nd,anF Bp.out nd,anF ao7.out nd,anF GX.out nd,gb,fb,lb,Kd.bZ zK.z nd,Kd.bZ Hs.z nd⟩,Nb.refl _ _⟩,FT (aM.gy Bu.z bb _) nd⟩
 have hqd:=decide_eq_true Dk
 go_enter Try.func116,Try.ntmps116
 go_wp2_with (first
  | ((with_reducible refine bS (f:=114) rfl ?_);refine gC (some 14) Try.func114 #[.agg #[.int .i64 a,.slice A l.length c],.slice oA o.length oc] ?_;refine (dD.calls k a _ _ l oA oc o cd _ ?aA hc ?anD ?cP HC.z).mono ?_;(case aA=>exact Kd.dU hr HB.z);(case anD=>exact uf.z.2.2);(case cP=>exact uf.z.2.1);rintro e w2 ⟨cv,rfl,hR,pq⟩;refine ⟨_,rfl,?_⟩;obtain ⟨cA,cc,rfl⟩:=Kd.cK hR;have Bu:=k0 pq;have xb:=k0 hR;have zK:=k0 (Kd.dg M9.z pq);have Hs:=k0 (Kd.dg HO.z pq);have Bp:=k0 (cB BG.out pq);have ao7:=k0 (cB BB.out pq);have GX:=k0 (cB BF.out pq);have j0:w2.cell? ⟨bg,0,none⟩=some (.int .i64 a):=(eX Bp.out 0).trans rfl;have j2:w2.cell? ⟨bb,0,none⟩=some (.slice bA b.length bc):=(eX ao7.out 0).trans rfl;have j3:=lC ao7.out 0;clear pq hR)
  | ((with_reducible refine bS (f:=117) rfl ?_);refine gC (some 17) Try.func117 #[.slice cA cd.length cc,.slice bA b.length bc] ?_;refine (ja.calls k cA cc cd bA bc b q _ (Kd.anT xb.z).2.2 (Kd.anT xb.z).2.1 (Kd.anT zK.z).2.2 (Kd.anT zK.z).2.1 HQ.out).mono ?_;rintro e w3 ⟨rfl,nd,rfl⟩;refine ⟨_,rfl,?_⟩))
 (try simp only [Exit.inBlock,Exit.then]);refine bodyPost_ret (results_none rfl _ _ _) rfl ?_
 have hsz:=anG HB.z
 refine ⟨rfl,⟨.slice cA cd.length cc,⟨az (bq (anH HB.z Bu.z) nd) lb,anU (anF Bp.out nd) gb _,anV (cs:=#[.slice bA b.length bc]) (anF ao7.out nd) 0 _ rfl,anU (anF GX.out nd) fb _,gb,fb,lb,?_,Kd.vQ (Kd.bZ Hs.z nd) (p:=⟨bb,0,none⟩) (fun k h=>h.1) _⟩,fun k hk=>.inr (N7 xb.z k hk)⟩,aM.Ly (FT (aM.gy Bu.z bb _) nd) 0 _⟩
 refine Kd.vQ (Kd.bZ (Kd.cH (Kd.aT (Kd.p4 xb.z) (fun k h=>?_)) hsz) nd) (p:=⟨bb,0,none⟩) (fun k h=>h.1.1) _
 have h1:=nX BB.out
 have h2:=nX BG.out
 have h3:=nX BF.out
 have h4:=h.2.1
 exact ⟨⟨by omega,by omega,by omega⟩,fun e=>absurd (Kd.bK HO.z k e.symm) (by omega)⟩
theorem jP.drewN {w0 w:World} {bg bb bf:Nat} {a:Int} {A:Option Addr} {c:Nat} {l:List (List Int)} {bv ov:Value} {b o:List Int} (h:jP w0 w bg bb bf a A c l bv ov b o) (m:Nat):jP w0 (w.drewN m) bg bb bf a A c l bv ov b o :=
 ⟨bq h.hb m,anF h.g m,anF h.be m,anF h.fi m,h.gb,h.fb,h.lb,Kd.bZ h.best m,Kd.bZ h.ord m⟩
theorem H9 {base:Nat} {ok ok':Nat→Prop} {w:World} {v:Value} {xs:List Int} (h:Kd.R (Kd.int .i64) 2 w base ok v xs) (hok:∀ k,v.ownBlock=some k→ok k→ok' k):Kd.R (Kd.int .i64) 2 w base ok' v xs:=by
 obtain ⟨h0,inner,hown,hr⟩:=h
 exact ⟨fun k hk=>hok k hk (h0 k hk),inner,hown,hr.mA (fun _ _ hm=>hm)⟩
theorem jP.alloc {w0 w:World} {bg bb bf:Nat} {a:Int} {A:Option Addr} {c:Nat} {l:List (List Int)} {bv ov:Value} {b o:List Int} (h:jP w0 w bg bb bf a A c l bv ov b o) (ob:Obj):jP w0 (w.alloc ob) bg bb bf a A c l bv ov b o :=
 ⟨h.hb.alloc (anG h.hb) ob,aI h.g _,aI h.be _,aI h.fi _,h.gb,h.fb,h.lb,Kd.b_ h.best _,Kd.b_ h.ord _⟩
theorem jP.drew {w0 w:World} {bg bb bf:Nat} {a:Int} {A:Option Addr} {c:Nat} {l:List (List Int)} {bv ov:Value} {b o:List Int} (h:jP w0 w bg bb bf a A c l bv ov b o):jP w0 w.drew bg bb bf a A c l bv ov b o:=h.drewN 1
/-- At the longer order. -/
theorem jP.app {w0 W w1 : World} {bg bb bf : Nat} {a : Int} {A : Option Addr} {c : Nat} {l : List (List Int)} {bv v1 : Value} {oA : Option Addr} {oc : Nat} {b o : List Int} {p : Int} (h : jP w0 W bg bb bf a A c l bv (.slice oA o.length oc) b o) (iQ : Kd.R (Kd.int .i64) 2 w1 w0.heap.size (fun k => k ≠ bb ∧ k ≠ bg ∧ k ≠ bf) v1 (o ++ [p]))
  (hd:(∃ g cap,Value.slice oA o.length oc=.slice (some ⟨g,0,none⟩) o.length cap∧v1=.slice (some ⟨g,0,none⟩) (o.length+1) cap∧W.grownBy w1 (some g))∨(v1.ownBlock=some W.heap.size∧W.grownBy w1 none)):jP w0 w1 bg bb bf a A c l bv v1 b (o ++ [p]):=by
 have HK:(∃ row,W.grownBy w1 row∧∀ k,row=some k→(Value.slice oA o.length oc).ownBlock=some k)∧∀ k,v1.ownBlock=some k→(Value.slice oA o.length oc).ownBlock=some k∨W.heap.size≤k:=by
  rcases hd with ⟨g,cap,e1,e2,e3⟩|⟨e2,e3⟩
  ·rw [e1,e2];exact ⟨⟨_,e3,fun k hk=>hk⟩,fun k hk=>.inl hk⟩
  ·refine ⟨⟨_,e3,fun k hk=>by cases hk⟩,fun k hk=>.inr ?_⟩;rw [e2] at hk;injection hk with hk;subst hk;exact Nat.le_refl _
 obtain ⟨⟨row,hg,hrow⟩,hnew⟩:=HK
 have hs:=anG h.hb
 have ne:∀ {g t:Nat} {cells:Array Value},W.heap[g]?=some (.cells cells t (0,0))→(2:Nat) ≠ t→some g ≠ row:=fun hb ht e=>Kd.iM h.ord hb ht (hrow _ e.symm).symm
 refine ⟨aee h.hb row (by have:=hg.size;omega) hg (fun k hk=>N7 h.ord k (hrow k hk)),gh h.g hg (ne h.g (by decide)),gh h.be hg (ne h.be (by decide)),gh h.fi hg (ne h.fi (by decide)),h.gb,h.fb,h.lb,?_,iQ⟩
 refine H9 (Kd.N4 h.best hg (fun k hk e=>hk.2 (hrow k e.symm).symm)) (fun k hk hok=>⟨hok.1,fun e=>?_⟩)
 rcases hnew k e.symm with h1|h1
 ·exact hok.2 h1.symm
 ·have:=Kd.bK h.best k hk;omega
/-- Behind the closure's call of itself: the order as it was. -/
theorem jP.back {w0 W w1 w4 : World} {bg bb bf : Nat} {a : Int} {A : Option Addr} {c : Nat} {l : List (List Int)} {bv uu v1 : Value} {oA : Option Addr} {oc : Nat} {b b2 o : List Int} {p : Int} (h : jP w0 W bg bb bf a A c l bv (.slice oA o.length oc) b o)
  (hd:(∃ g cap,Value.slice oA o.length oc=.slice (some ⟨g,0,none⟩) o.length cap∧v1=.slice (some ⟨g,0,none⟩) (o.length+1) cap∧W.grownBy w1 (some g))∨(v1.ownBlock=some W.heap.size∧W.grownBy w1 none))
  (h4:jP w0 w4 bg bb bf a A c l uu v1 b2 (o ++ [p])) (hk:aM w1 w4 bb v1.ownBlock) (hn:Nb w1 bv uu):jP w0 w4 bg bb bf a A c l uu (.slice oA o.length oc) b2 o∧aM W w4 bb (Value.slice oA o.length oc).ownBlock∧Nb W bv uu:=by
 rcases hd with ⟨g,cap,e1,e2,hg⟩|⟨e2,hg⟩
 ·injection e1 with e1 _ e3;subst e1 e3 e2;have ho:=Kd.WC (m:=o.length) h4.ord (by simp);rw [List.take_left] at ho;exact ⟨⟨h4.hb,h4.g,h4.be,h4.fi,h4.gb,h4.fb,h4.lb,h4.best,ho⟩,(aM.sP hg bb).trans hk (.inl rfl),fun k hk=>(hn k hk).imp id (fun h=>by have:=hg.size;omega)⟩
 ·have hs := hg.size
  have lo:=Kd.bK h.ord
  rw [e2] at hk
  refine ⟨⟨h4.hb,h4.g,h4.be,h4.fi,h4.gb,h4.fb,h4.lb,?_,?_⟩,?_,fun k hk=>(hn k hk).imp id (fun h=>by omega)⟩
  ·refine H9 h4.best (fun k hk2 hok => ⟨hok.1, fun e => ?_⟩)
   rcases hn k hk2 with h1|h1
   ·exact (h.best.1 k h1).2 e
   ·have:=lo k e.symm;omega
  ·have Fx := Kd.N4 h.ord hg (fun _ _ => by simp)
   have uK:Kd.R (Kd.int .i64) 2 w1 w0.heap.size (fun k=>(k ≠ bb∧k ≠ bg∧k ≠ bf)∧some k=(Value.slice oA o.length oc).ownBlock) (.slice oA o.length oc) o:=H9 Fx (fun k hk2 hok=>⟨hok,hk2.symm⟩)
   exact Kd.aT (Kd.vS uK (fun k hok hlt=>hk.2 k hlt hok.1.1 (fun e=>by injection e with e;have:=lo k hok.2.symm;omega))) (fun k h=>h.1)
  ·exact ⟨Nat.le_trans hs hk.1,fun i hi hib hio=>(hk.2 i (Nat.lt_of_lt_of_le hi hs) hib (by intro e;injection e with e;omega)).trans (hg.block i hi (by simp))⟩
theorem ZR {w w' W w4:World} {bb:Nat} {r:Option Nat} {bv bv' uu:Value} (hk:aM w w' bb r) (hn:Nb w bv bv') (hb:Below w'.heap.size w' W) (h5:aM W w4 bb r) (h6:Nb W bv' uu):aM w w4 bb r∧Nb w bv uu :=
 ⟨hk.trans ((aM.gy hb bb r).trans h5 (.inl rfl)) (.inl rfl),hn.trans h6 (Nat.le_trans hk.1 hb.size)⟩
theorem jP.fresh {w0 w:World} {bg bb bf:Nat} {a:Int} {A:Option Addr} {c:Nat} {l:List (List Int)} {bv ov:Value} {b o:List Int} (h:jP w0 w bg bb bf a A c l bv ov b o) (k:Nat) (hk:w.heap.size≤k):k ≠ bb∧k ≠ bg∧k ≠ bf:=by
 have h1:=nX h.be
 have h2:=nX h.g
 have h3:=nX h.fi
 omega
/-- The closure's contract, at a number of rounds. -/
def MZ (w0 : World) (bg bb bf : Nat) (a : Int) (A : Option Addr) (c : Nat) (l : List (List Int)) (k : Nat) : Prop := ∀ (w : World) (bv : Value) (oA : Option Addr) (oc : Nat) (b o r : List Int), dG.l0 k a l b o = some r → jP w0 w bg bb bf a A c l bv (.slice oA o.length oc) b o →
  Calls Try.prog 116 #[.slice oA o.length oc,.pointer (some ⟨bg,0,none⟩),.pointer (some ⟨bb,0,none⟩),.pointer (some ⟨bf,0,none⟩)] w fun e w'=>e=.returned (.tuple #[])∧(∃ bv',jP w0 w' bg bb bf a A c l bv' (.slice oA o.length oc) r o∧Nb w bv bv')∧aM w w' bb (Value.slice oA o.length oc).ownBlock
/-- At its call of itself. -/
theorem ZP (w0 : World) (bg bb bf : Nat) (a : Int) (A : Option Addr) (c : Nat) (l : List (List Int)) (k : Nat) (IH : ak (∀ m, m < k + 1 → MZ w0 bg bb bf a A c l m)) (k1 : Nat) (hk : k1 + 1 ≤ k) (w1 : World) (bv : Value) (yE : Option Addr) (yF : Nat) (b o b2 : List Int) (x : Int) (h : dG.l0 k1 a l b (o ++ [x]) = some b2) (hin : jP w0 w1 bg bb bf a A c l bv (.slice yE (o ++ [x]).length yF) b (o ++ [x])) :
  Calls Try.prog 116 #[.slice yE (o.length+1) yF,.pointer (some ⟨bg,0,none⟩),.pointer (some ⟨bb,0,none⟩),.pointer (some ⟨bf,0,none⟩)] w1 fun e w'=>e=.returned (.tuple #[])∧(∃ bv',jP w0 w' bg bb bf a A c l bv' (.slice yE (o ++ [x]).length yF) b2 (o ++ [x])∧Nb w1 bv bv')∧aM w1 w' bb (Value.slice yE (o ++ [x]).length yF).ownBlock:=by
 have e:o.length+1=(o ++ [x]).length:=by simp
 rw [e]
 exact IH.out k1 (by omega) w1 bv yE yF b (o ++ [x]) b2 h hin
theorem ZO (w0:World) (bg bb bf:Nat) (a:Int) (A:Option Addr) (c:Nat) (l:List (List Int)) (hr:Kd.C (Kd.slice 2 (Kd.int .i64)) w0 A l.length l) (hc:l.length≤c):∀ (k:Nat),MZ w0 bg bb bf a A c l k:=by
 intro k
 induction k using Nat.strongRecOn with
 | ind k IH =>
 intro w bv oA oc b o r h hin
 cases k with
 | zero=>simp [dG.l0] at h
 | succ k =>
 simp only [dG.l0] at h
 by_cases ha:(o.length:Int)=a
 case neg =>
  rw [if_neg ha] at h
  have VP:=k0 IH
  clear IH
  have H':=k0 h
  clear h
  have aoL:=k0 hin
  have BG:=k0 hin.g
  have g0:w.cell? ⟨bg,0,none⟩=some (.int .i64 a):=(eX BG.out 0).trans rfl
  have f0:=lC BG.out 0
  have hd:((o.length:Int) == a)=false:=beq_eq_false_iff_ne.mpr ha
  clear hin ha
  go_enter Try.func116,Try.ntmps116
  go_wp2
  go_loopg [22] k (fun kq ze w'=>∃ (b':List Int) (x:Int) (bv':Value),ze=.int .i64 x∧ak (dG.l1 kq a l b' o x=some r)∧ak (kq≤k)∧ak (jP w0 w' bg bb bf a A c l bv' (.slice oA o.length oc) b' o)∧ak (aM w w' bb (Value.slice oA o.length oc).ownBlock)∧ak (Nb w bv bv'))
  case atStart=>exact ⟨b,0,bv,rfl,H',⟨Nat.le_refl _⟩,aoL,⟨aM.refl _ _ _⟩,⟨Nb.refl _ _⟩⟩
  case round =>
   clear H' aoL g0 f0 BG
   obtain ⟨b',x,bv',rfl,HA,bH,aoL,Hh,Hp⟩:=hrel
   cases gk with
   | zero=>exact absurd HA.z (by simp [dG.l1])
   | succ k1 =>
    have H:=HA.z
    clear HA
    simp only [dG.l1] at H
    have BG:=k0 aoL.z.g
    by_cases c1:x < a
    case neg =>
     rw [if_neg c1] at H
     have XQ:=decide_eq_false c1
     clear c1
     obtain rfl:=Option.some.inj H
     go_wp2
     go_end0
     exact ⟨rfl,⟨_,aoL.z,Hp.out⟩,Hh.z⟩
    rw [if_pos c1] at H
    have XQ:=decide_eq_true c1
    clear c1
    obtain ⟨q,hq,H⟩:=Option.bind_eq_some_iff.mp H
    have HQ:=k0 hq
    clear hq
    have uf:=k0 (Kd.anT aoL.z.ord)
    cases q with
    | true =>
     have H':ak (dG.l1 k1 a l b' o (wrap64 (x+1))=some r):=⟨by simpa using H⟩
     clear H
     go_wp2_with (first
      | ((with_reducible refine bS (f:=118) rfl ?_);refine gC (some 27) Try.func118 #[.slice oA o.length oc,.int .i64 x] ?_;refine (mF.calls k1 oA oc o x true _ uf.z.2.2 uf.z.2.1 HQ.out).mono ?_;rintro e w3 ⟨rfl,nd,rfl⟩;refine ⟨_,rfl,?_⟩))
     go_roundg k1
     case measure=>have:=bH.z;omega
     case rel=>exact ⟨b',_,bv',rfl,H',⟨by have:=bH.z;omega⟩,⟨aoL.z.drewN nd⟩,⟨FT Hh.z nd⟩,Hp⟩
    | false =>
     simp only [Bool.false_eq_true,if_false] at H
     by_cases c2:o.length < 17592186044416
     case neg=>rw [if_neg c2] at H;cases H
     rw [if_pos c2] at H
     obtain ⟨b2,iU,H⟩:=Option.bind_eq_some_iff.mp H
     have U7:=k0 iU
     have ua:=k0 c2
     have H2:=k0 H
     clear H iU c2
     have HF:=k0 aoL.z.fi
     go_wp2_with (first
      | ((with_reducible refine bS (f:=118) rfl ?_);refine gC (some 27) Try.func118 #[.slice oA o.length oc,.int .i64 x] ?_;refine (mF.calls k1 oA oc o x false _ uf.z.2.2 uf.z.2.1 HQ.out).mono ?_;rintro e w3 ⟨rfl,nd,rfl⟩;refine ⟨_,rfl,?_⟩;have jf:=eX (anF HF.out nd) 0;simp only [List.getElem?_toArray,List.getElem?_cons_zero] at jf))
     have HW:=k0 (aoL.z.drewN nd)
     go_region_held3 (fun w' => w'.cell? ⟨bf, 0, none⟩ = some (.func (.func 116) #[] #[.pointer (some ⟨bg, 0, none⟩), .pointer (some ⟨bb, 0, none⟩), .pointer (some ⟨bf, 0, none⟩)]))
      (first|(exact (eX Nk.z.fi 0).trans rfl)|(exact (eX Nj.z.fi 0).trans rfl)|(exact (eX HW.z.drew.fi 0).trans rfl)|(exact (eX (HW.z.drew.alloc _).fi 0).trans rfl)|(exact (eX (HW.z.alloc _).drew.fi 0).trans rfl))
      ((first
       | ((with_reducible refine NM.out.mono ?_);rintro e w4 ⟨rfl,⟨uu,Ra,RA⟩,Rd⟩;have Nk:=k0 Ra;have Vn:=k0 RA;have Vh:=k0 Rd;clear Ra Rd RA NM)
       | (refine aeT rfl _ _ (by rfl) w0.heap.size oA oc o x (fun k=>k ≠ bb∧k ≠ bg∧k ≠ bf) _ (by rfl) (by rfl) (heap_alloc_new _ _) (HW.z.drew.alloc _).ord (anG (HW.z.drew.alloc _).hb) (HW.z.drew.alloc _).fresh ua.z ?_;intro v1 w1 iQ hd;obtain ⟨yE,yF,rfl⟩:=Kd.cK iQ;have Nj:=k0 ((HW.z.drew.alloc _).app iQ hd);have HD:=k0 hd;have NM:=k0 (ZP w0 bg bb bf a A c l k VP k1 bH.z w1 bv' yE yF b' o b2 x U7.z Nj.z);clear hd iQ)))
     obtain ⟨Rb,Re,RG⟩:=jP.back (HW.z.drew.alloc _) HD.out Nk.z Vh.z Vn.out
     obtain ⟨Rf,RH⟩:=ZR Hh.z Hp.out (bn (uq (bq (Below.refl _ _) nd)) _) Re RG
     have Vg:=k0 Rb
     have Vi:=k0 Rf
     have Vo:=k0 RH
     clear Rb Re RG Rf RH
     go_wp2
     go_roundg k1
     case measure=>have:=bH.z;omega
     case rel=>exact ⟨b2,_,uu,rfl,H2,⟨by have:=bH.z;omega⟩,Vg,Vi,Vo⟩
 rw [if_pos ha] at h
 obtain ⟨cd,hcd,h⟩:=Option.bind_eq_some_iff.mp h
 obtain ⟨q,hq,h⟩:=Option.bind_eq_some_iff.mp h
 have e:(if q < 0 then cd else b)=r:=by
  by_cases Dk:q < 0
  case neg =>
   rw [if_neg Dk] at h ⊢;exact Option.some.inj h
  rw [if_pos Dk] at h ⊢;exact Option.some.inj h
 rw [← e]
 exact ZQ w0 w bg bb bf a A c l bv oA oc b o cd q k hr hc hin ha hcd hq
theorem run_store_fn {P:Program} {w:World} {a:Addr} {m:Mode} (f:Fn) (x y:Array Value):(store a (.func f x y) m).run P w=stored P w a (.func f x y) m:=run_store P w a _ m rfl
attribute [local go_sem] run_store_fn
structure zW (w W:World) (gb bb:Nat) (a:Int) (A:Option Addr) (c:Nat) (l:List (List Int)) (v:Value) (b:List Int):Prop where
 hb:Below w.heap.size w W
 hbk:W.heap[gb]?=some (sO a A l c 31)
 hbb:W.heap[bb]?=some (.cells #[v] 28 (0,0))
 lo:w.heap.size≤bb
 gl:w.heap.size≤gb
 r:Kd.R (Kd.int .i64) 2 W w.heap.size (fun k=>True∧k ≠ bb) v b
theorem zW.SV {w W:World} {gb bb:Nat} {a:Int} {A:Option Addr} {c:Nat} {l:List (List Int)} {v:Value} {b:List Int} (hb:Below w.heap.size w W) (BK:W.heap[gb]?=some (sO a A l c 31)) (BB:W.heap[bb]?=some (.cells #[.slice none 0 0] 28 (0,0))) (lo:w.heap.size≤bb) (gl:w.heap.size≤gb) (hR:Kd.R (Kd.int .i64) 2 W w.heap.size (fun _=>True) v b):zW w (W.setCell ⟨bb,0,none⟩ v) gb bb a A c l v b :=
 ⟨az hb lo,anU BK (xA BK BB (by decide)) _,anV (cs:=#[.slice none 0 0]) BB 0 _ rfl,lo,gl,Kd.vQ (Kd.z7 hR BB (by decide)) (p:=⟨bb,0,none⟩) (fun k h=>h.2) _⟩
theorem ZT {w W w6:World} {gb bb gf:Nat} {a:Int} {A:Option Addr} {c:Nat} {l:List (List Int)} {v:Value} {b:List Int} (hm:zW w W gb bb a A c l v b) (h6:Below W.heap.size W w6) (bf:w6.heap[gf]?=some (.cells #[.nilFunc] 100 (0,0))) (hg:gf=W.heap.size):jP w (w6.setCell ⟨gf,0,none⟩ (.func (.func 116) #[] #[.pointer (some ⟨gb,0,none⟩),.pointer (some ⟨bb,0,none⟩),.pointer (some ⟨gf,0,none⟩)])) gb bb gf a A c l v (.slice none ([]:List Int).length 0) b []:=by
 have hk:=cB hm.hbk h6
 have hb:=cB hm.hbb h6
 refine ⟨az (anH hm.hb h6) (by rw [hg];exact anG hm.hb),anU hk (xA hk bf (by decide)) _,anU hb (xA hb bf (by decide)) _,anV (cs:=#[.nilFunc]) bf 0 _ rfl,xA hk hb (by decide),xA bf hb (by decide),hm.lo,?_,Kd.ny _ _ _ _ _⟩
 have h1:=Kd.z7 (Kd.z7 (Kd.dg hm.r h6) hk (by decide)) bf (by decide)
 exact Kd.aT (Kd.vQ h1 (p:=⟨gf,0,none⟩) (fun k h=>h.2) _) (fun k h=>⟨⟨h.1.1.2,h.1.2,h.2⟩,by simp [Value.ownBlock]⟩)
theorem dG.calls (k : Nat) (a : Int) (A : Option Addr) (c : Nat) (l : List (List Int)) (r1 : List Int) (r2 : Int) (w : World) (hr : Kd.C (Kd.slice 2 (Kd.int .i64)) w A l.length l) (hc : l.length ≤ c) (h : dG.f k a l = some (r1, r2)) :
  Calls Try.prog 42 #[.agg #[.int .i64 a,.slice A l.length c]] w fun e w'=>∃ dw:Value,e=.returned (.tuple #[dw,.int .i64 r2])∧Kd.R (Kd.int .i64) 2 w' w.heap.size (fun _=>True) dw r1∧Below w.heap.size w w':=by
  have jS:=Try.underlying31
  have HR:=k0 hr
  have HC:=k0 hc
  have HB:=k0 (Below.refl w.heap.size w)
  clear hr hc
  simp only [dG.f] at h
  obtain ⟨t,ht,h⟩:=Option.bind_eq_some_iff.mp h
  have HT:=k0 ht
  clear ht
  cases t with
  | false =>
   rw [if_neg (by decide)] at h
   injection h with h
   injection h with h1 h2
   subst h1 h2
   go_enter Try.func42,Try.ntmps42
   go_wp2_with (first
     | ((with_reducible refine bN (N:=1) rfl ?_);refine cE 1 #[.int .i64 a,.slice A l.length c] 31 ?_;intro gb hg w2 aG hb;have BK:=k0 (aG);have GW:=gW hg (anG bl);replace HB:=k0 (anH bl hb);clear hb aG hg;have uG:=aX BK;have uH:=aY BK;have uI:=bF BK 0;have uJ:=bF BK 1)
     | ((with_reducible refine bS (f:=106) rfl ?_);refine gC (some 8) Try.func106 #[.agg #[.int .i64 a,.slice A l.length c]] ?_;refine (fj.calls k a A c l false _ ?s1 HC.z HT.out).mono ?_;(case s1=>exact aC (Kd.dU HR.z HB.z));rintro e w3 ⟨rfl,hb⟩;refine ⟨_,rfl,?_⟩;replace BK:=kB BK hb;replace HB:=k0 (anH bl hb);clear hb))
   go_ret2
   exact ⟨_,rfl,Kd.ny _ _ _ _ _,bl⟩
  | true =>
   rw [if_pos rfl] at h
   by_cases c6:a > 6
   case neg =>
    rw [if_neg c6] at h
    have X_:=decide_eq_false c6
    clear c6
    obtain ⟨o,ho,h⟩:=Option.bind_eq_some_iff.mp h
    obtain ⟨b,hb0,h⟩:=Option.bind_eq_some_iff.mp h
    obtain ⟨r,cL,h⟩:=Option.bind_eq_some_iff.mp h
    injection h with h
    injection h with h1 h2
    subst h1 h2
    have HO:=k0 ho
    have Vf:=k0 hb0
    have HF:=k0 cL
    clear ho hb0 cL
    go_enter Try.func42,Try.ntmps42
    go_wp2_with (first
     | ((with_reducible refine bN (N:=1) rfl ?_);refine cE 1 #[.int .i64 a,.slice A l.length c] 31 ?_;intro gb hg w2 aG hb;have BK:=k0 (aG);have GW:=gW hg (anG bl);replace HB:=k0 (anH bl hb);clear hb aG hg;have uG:=aX BK;have uH:=aY BK;have uI:=bF BK 0;have uJ:=bF BK 1)
     | ((with_reducible refine bS (f:=106) rfl ?_);refine gC (some 8) Try.func106 #[.agg #[.int .i64 a,.slice A l.length c]] ?_;refine (fj.calls k a A c l true _ ?s1 HC.z HT.out).mono ?_;(case s1=>exact aC (Kd.dU HR.z HB.z));rintro e w3 ⟨rfl,hb⟩;refine ⟨_,rfl,?_⟩;replace BK:=kB BK hb;replace HB:=k0 (anH bl hb);clear hb uG uH uI uJ;have aa9:=aX BK;have aa':=aY BK;have aba:=bF BK 0;have abb:=bF BK 1))
    go_region_held3 (fun w' => w'.cell? ⟨gb, 0, none⟩ = some (.int .i64 a) ∧ w'.cell? ⟨gb, 1, none⟩ = some (.slice A l.length c))
     (first|(exact ⟨(eX (anU s9.z (xA s9.z s8.out (by decide)) _) 0).trans rfl,(eX (anU s9.z (xA s9.z s8.out (by decide)) _) 1).trans rfl⟩)|(exact ⟨(eX (aB s9.z) 0).trans rfl,(eX (aB s9.z) 1).trans rfl⟩)|(exact ⟨(eX (aB Ej.z) 0).trans rfl,(eX (aB Ej.z) 1).trans rfl⟩)|(exact ⟨(eX (aB BK.z) 0).trans rfl,(eX (aB BK.z) 1).trans rfl⟩))
     ((first
      | ((with_reducible refine (gP.calls k a A c l o _ ?s1 HC.z HO.z).mono ?_);(case s1=>exact aC (Kd.dU HR.z HB.z));rintro e w4 ⟨v4,rfl,Jn,CD⟩;obtain ⟨oA,oc,rfl⟩:=Kd.cK Jn;have Ht:=k0 Jn;have Ej:=kB BK CD;have aps:=k0 (anH bl CD);(try first|have MS:=k0 (cB (w:=World.alloc _ _) (heap_alloc_new _ _) CD)|have MS:=k0 (cB (w:=World.drew _) (aH (heap_alloc_new _ _)) CD));clear Jn CD)
      | ((with_reducible refine (dD.calls k a A c l oA oc o b _ ?s1 HC.z ?s2 ?s3 Vf.z).mono ?_);(case s1=>exact aC (Kd.dU HR.z aps.z));(case s2=>exact aC (Kd.anT Ht.z).2.2);(case s3=>exact (Kd.anT Ht.z).2.1);rintro e w5 ⟨v5,rfl,Jo,CE⟩;obtain ⟨cA,cc,rfl⟩:=Kd.cK Jo;have Hf:=k0 (Kd.cH (base':=w.heap.size) Jo (by first|exact anG aps.z|exact Nat.le_trans (anG aps.z) (by simp)));have s9:=kB Ej CE;have zJ:=k0 (anH (aL aps.z) CE);(first|(have s8:=kB MS CE;have jb:=aX s8;have jf:=bF s8 0)|(have s8:=k0 (cB (w:=World.alloc _ _) (heap_alloc_new _ _) CE);have jb:=aX s8;have jf:=bF s8 0)|skip);clear Jo CE)))
    rotate_left
    all_goals (first
     | (have HM:=k0 (zW.SV zJ.z s9.z s8.out (anG aps.z) GW.z Hf.z);generalize w5.setCell ⟨w4.heap.size,0,none⟩ (.slice cA b.length cc)=W at HM ⊢;generalize w4.heap.size=bb at HM ⊢)
     | (have HM:=k0 (zW.SV zJ.z s9.z s8.out (anG HB.z) GW.z Hf.z);generalize w5.setCell ⟨w3.heap.size,0,none⟩ (.slice cA b.length cc)=W at HM ⊢;generalize w3.heap.size=bb at HM ⊢)
     | (have HM:=k0 (show zW w _ gb w5.heap.size a A c l (.slice cA b.length cc) b from ⟨zJ.z.alloc (anG zJ.z) (Obj.cells #[Value.slice cA b.length cc] 28),aI s9.z _,heap_alloc_new _ _,anG zJ.z,GW.z,Kd.b_ (Kd.Wv Hf.z _ (Nat.le_refl _)) _⟩);generalize w5.alloc (Obj.cells #[Value.slice cA b.length cc] 28)=W at HM ⊢;generalize w5.heap.size=bb at HM ⊢))
    all_goals (try clear jb jf s8);clear s9 zJ aps Ht Ej HB BK
    all_goals (go_wp2_with (first
     | ((with_reducible refine bN (N:=5) rfl ?_);refine cE 5 #[.nilFunc] 100 ?_;intro gf QX w6 aG PO;have BF:=k0 aG;have U8:=k0 PO;have HG:=k0 QX;clear PO aG QX;have hcf:=aX BF;have hff:=bF BF 0)
     | (go_at_call 116;refine (show Calls Try.prog 116 #[.slice none 0 0,.pointer (some ⟨gb,0,none⟩),.pointer (some ⟨bb,0,none⟩),.pointer (some ⟨gf,0,none⟩)] _ _ from ZO w gb bb gf a A c l HR.z HC.z k _ _ none 0 b [] r HF.out (ZT HM.out U8.z BF.out HG.out)).mono ?_;rintro e w8 ⟨rfl,⟨bv,hin,hnb⟩,hkb⟩;obtain ⟨bA,bc,rfl⟩:=Kd.cK hin.best;have aoL:=k0 hin;have jb:w8.cell? ⟨bb,0,none⟩=some (.slice bA r.length bc):=(eX hin.be 0).trans rfl;have jf:=lC hin.be 0;clear hin hnb hkb)))
    all_goals go_ret2
    all_goals exact ⟨_,rfl,Kd.aT aoL.z.best (fun _ _=>trivial),aoL.z.hb⟩
   rw [if_pos c6] at h
   injection h with h
   injection h with h1 h2
   subst h1 h2
   have X_:=decide_eq_true c6
   clear c6
   go_enter Try.func42,Try.ntmps42
   go_wp2_with (first
    | ((with_reducible refine bN (N:=1) rfl ?_);refine cE 1 #[.int .i64 a,.slice A l.length c] 31 ?_;intro gb hg w2 aG hb;have BK:=k0 (aG);have GW:=gW hg (anG bl);replace HB:=k0 (anH bl hb);clear hb aG hg;have uG:=aX BK;have uH:=aY BK;have uI:=bF BK 0;have uJ:=bF BK 1)
    | ((with_reducible refine bS (f:=106) rfl ?_);refine gC (some 8) Try.func106 #[.agg #[.int .i64 a,.slice A l.length c]] ?_;refine (fj.calls k a A c l true _ ?s1 HC.z HT.out).mono ?_;(case s1=>exact aC (Kd.dU HR.z HB.z));rintro e w3 ⟨rfl,hb⟩;refine ⟨_,rfl,?_⟩;replace BK:=kB BK hb;replace HB:=k0 (anH bl hb);clear hb;have aa9:=aX BK;have aa':=aY BK;have aba:=bF BK 0;have abb:=bF BK 1))
   go_ret2
   exact ⟨_,rfl,Kd.ny _ _ _ _ _,bl⟩
/-! ### F119: function 119 -/
mutual
def dr.l0 : Nat → Int → List (List Int) → Int → Option ((List (List Int)))
 | 0,_,_,_=>none
 | k+1,x0,x3,x4=>if x4 < x0 then (dr.l1 k x0 x3 x4 (([]:List (List Int))) 0) else (some x3)
def dr.l1 : Nat → Int → List (List Int) → Int → List (List Int) → Int → Option ((List (List Int)))
 | 0,_,_,_,_,_=>none
 | k+1,x0,x3,x4,x5,x6=>if x6 < (x3.length:Int) then (dr.l2 k x0 x3 x4 x5 x6 0) else (dr.l0 k x0 x5 (wrap64 (x4+1)))
def dr.l2 : Nat → Int → List (List Int) → Int → List (List Int) → Int → Int → Option ((List (List Int)))
 | 0,_,_,_,_,_,_=>none
 | k+1,x0,x3,x4,x5,x6,x7=>if 0≤x6 then (if x6 < (x3.length:Int) then (if x7≤((ai x3 x6).length:Int) then ((some (([x4]:List Int):List Int)).bind fun qv=>(if 0≤x7 then ((some ((ai x3 x6).drop (x7:Int).toNat:List Int)).bind fun gN=>(if qv.length+gN.length < 17592186044416 then ((some (qv ++ gN:List Int)).bind fun gJ=>((mG.f ((ai x3 x6).take (x7:Int).toNat)).bind fun t127=>(if t127.length+gJ.length < 17592186044416 then (if x5.length < 5864062014805 then (dr.l2 k x0 x3 x4 (x5 ++ [(t127 ++ gJ)]) x6 (wrap64 (x7+1))) else (none)) else (none)))) else (none))) else (none))) else (dr.l1 k x0 x3 x4 x5 (wrap64 (x6+1)))) else (none)) else (none)
end
def dr.f (k:Nat) (a0:Int):Option ((List (List Int))):=dr.l0 k a0 (([(([]:List Int))]:List (List Int))) 0
theorem dr.cC : ∀ k, (∀ y0 y1 y2, ag (dr.l0 k y0 y1 y2) (dr.l0 (k + 1) y0 y1 y2)) ∧ (∀ y0 y1 y2 y3 y4, ag (dr.l1 k y0 y1 y2 y3 y4) (dr.l1 (k + 1) y0 y1 y2 y3 y4)) ∧ (∀ y0 y1 y2 y3 y4 y5, ag (dr.l2 k y0 y1 y2 y3 y4 y5) (dr.l2 (k + 1) y0 y1 y2 y3 y4 y5))
 | 0=>⟨fun _ _ _ r h=>by simp [dr.l0] at h,fun _ _ _ _ _ r h=>by simp [dr.l1] at h,fun _ _ _ _ _ _ r h=>by simp [dr.l2] at h⟩
 | k+1=>by
  obtain ⟨a_,ih1,ih2⟩:=dr.cC k
  refine ⟨?_, ?_, ?_⟩ <;> intros <;> (first | unfold dr.l0 | unfold dr.l1 | unfold dr.l2) <;> repeat' first
   | (with_reducible first|exact a_ _ _ _|exact ih1 _ _ _ _ _|exact ih2 _ _ _ _ _ _|exact ag.refl _|exact ag.none _|refine ag.ite ?_ ?_|refine ag.bind ?_ (fun _=>?_))
   | exact a_ _ _ _|exact ih1 _ _ _ _ _|exact ih2 _ _ _ _ _ _|exact ag.none _|refine ag.ite ?_ ?_|refine ag.bind ?_ (fun _=>?_)
theorem dr.mono:∀ a0 k,ag (dr.f k a0) (dr.f (k+1) a0):=by
 intro a0 k
 obtain ⟨a_,ih1,ih2⟩:=dr.cC k
 unfold dr.f
 repeat' first
  | (with_reducible first|exact a_ _ _ _|exact ih1 _ _ _ _ _|exact ih2 _ _ _ _ _ _|exact ag.refl _|exact ag.none _|refine ag.ite ?_ ?_|refine ag.bind ?_ (fun _=>?_))
  | exact a_ _ _ _|exact ih1 _ _ _ _ _|exact ih2 _ _ _ _ _ _|exact ag.none _|refine ag.ite ?_ ?_|refine ag.bind ?_ (fun _=>?_)
theorem dr.calls (k : Nat) (a0 : Int) (r : List (List Int)) (w : World) (h : dr.f k a0 = some r) :
  Calls Try.prog 119 #[.int .i64 a0] w fun e w'=>∃ dw:Value,e=.returned (dw)∧Kd.S (Kd.slice 2 (Kd.int .i64)) 28 w' w.heap.size (fun _=>True) dw r∧Below w.heap.size w w':=by
 have HB:=k0 (Below.refl w.heap.size w)
 have H:(dr.l0 k a0 (([(([]:List Int))]:List (List Int))) 0)=some r:=h
 clear h
 obtain ⟨iH,jh⟩:∃ y_:List Int,y_=(([]:List Int)):=⟨_,rfl⟩
 replace H:(dr.l0 k a0 (([iH]:List (List Int))) 0)=some r:=rH jh H
 have kW:=k0 jh
 clear jh
 obtain ⟨qT,pH⟩:∃ y_:List (List Int),y_=(([iH]:List (List Int))):=⟨_,rfl⟩
 replace H:(dr.l0 k a0 qT 0)=some r:=rH pH H
 have vN:=k0 pH
 clear pH
 have H':=k0 H
 clear H
 go_enter Try.func119,Try.ntmps119
 go_wp2_with (first|((with_reducible refine bN (N:=9) rfl ?_);refine Kd.jd (Kd.int .i64) _ 2 ?hg (N:=9) ?hd (xs:=([]:List Int)) (inner:=[]) (ok:=fun _=>True) (anX:=fun _=>True) ?hr ?hp (fun _ hk=>hk) trivial (Below.refl _ _) (Nat.le_refl _) (by simp) ?_;(case hd=>rfl);(case hg=>rfl);(case hr=>first|(go_simp;done)|(go_simp;rfl));(case hp=>exact (bu.none _ _));intro aoK w2 og hb c_ dc;clear c_ dc;(first|rw [← kW.z] at og|(simp only [Int.reduceToNat] at og;rw [← kW.z] at og));have jQ:=k0 (Kd.cH og (anG bl));replace HB:=k0 (anH bl hb);clear hb og;obtain ⟨MN,O0,Zw⟩:=Kd.cK jQ.z;subst Zw)|((with_reducible refine bN (N:=10) rfl ?_);refine WH (Kd.slice 2 (Kd.int .i64)) (w0:=w) w.heap.size 28 rfl (N:=10) rfl iH [.slice MN iH.length O0] (fun _=>True) (fun k_=>some k_=(.slice MN iH.length O0:Value).ownBlock) ?hr ?aP (fun k_ b9=>((Kd.aT (ok':=fun k_=>((fun _=>True)) k_∧some k_ ≠ (.slice none 0 0:Value).ownBlock) (jQ.z) (fun k_ hk=>⟨trivial,(by simp [Value.ownBlock])⟩))).1 k_ b9.symm) ?aF ?aB ?aS ?_;(case hr=>first|(go_simp;done)|(go_simp;rfl));(case aP=>exact Kd.lg (Kd.aT (Kd.oB rfl (Kd.aT (ok':=fun k_=>((fun _=>True)) k_∧some k_ ≠ (.slice none 0 0:Value).ownBlock) (jQ.z) (fun k_ hk=>⟨trivial,(by simp [Value.ownBlock])⟩))) (fun _ h_=>h_)));(case aB=>exact bl);(case aF=>exact (fun _ _=>trivial));(case aS=>exact (anG bl));intro v105 w4 ho hb hg bz;rw [← vN.z] at ho;have av:=k0 (hb);have ax:=k0 (ho);clear HB;clear jQ;have HB:=av;have kS:=ax;clear av ax;clear ho hb hg bz))
 go_loopg [3,4] k (fun kq v3 v4 w'=>∃ (anO:List (List Int)) (bD:Int),v4=.int .i64 bD∧ak (dr.l0 kq a0 anO bD=some r)∧ak (kq≤k)∧ak (Kd.S (Kd.slice 2 (Kd.int .i64)) 28 w' w.heap.size (fun _=>True) v3 anO)∧ak (Below w.heap.size w w'))
 case atStart=>exact ⟨(qT),(0),rs,H',⟨Nat.le_refl _⟩,⟨aS (kS.z)⟩,⟨bl⟩⟩
 case round =>
  clear H'
  obtain ⟨anO,bD,rfl,HA,bH,bh,HB⟩:=hrel
  cases gk with
  | zero=>exact absurd HA.z (by simp [dr.l0])
  | succ k1 =>
   have H:=HA.z
   clear HA
   simp only [dr.l0] at H
   by_cases c6:bD < a0
   case neg =>
    rw [if_neg c6] at H
    have iD:decide (bD < a0)=false:=decide_eq_false c6
    clear c6
    obtain rfl:=Option.some.inj H
    go_wp2
    go_ret
    exact ⟨_,eR,by (with_reducible repeat (first|apply Kd.di|apply Kd.dm|apply Kd.cS));exact bh.z,bl⟩
   rw [if_pos c6] at H
   have iD:=decide_eq_true c6
   clear c6
   obtain ⟨gX,pI⟩:∃ y_:List (List Int),y_=(([]:List (List Int))):=⟨_,rfl⟩
   replace H:(dr.l1 k1 a0 anO bD gX 0)=some r:=rH pI H
   have uj:=k0 pI
   clear pI
   have H':=k0 H
   clear H
   go_wp2_with (first|((with_reducible refine bN (N:=16) rfl ?_);refine Kd.z_ (Kd.slice 2 (Kd.int .i64)) _ 28 ?hg (N:=16) ?hd (xs:=([]:List (List Int))) (inner:=[]) (ok:=fun _=>True) (anX:=fun _=>True) ?hr ?hp (fun _ hk=>hk) trivial (Below.refl _ _) (Nat.le_refl _) (by simp) ?_;(case hd=>rfl);(case hg=>rfl);(case hr=>first|(go_simp;done)|(go_simp;rfl));(case hp=>exact (bu.none _ _));intro cw w7 mU hb c_ dc;clear c_ dc;(first|rw [← uj.z] at mU|(simp only [Int.reduceToNat] at mU;rw [← uj.z] at mU));have dy:=k0 (Kd.gD (Kd.jy mU (Kd.vU (aS bh.z))) (anG bl));replace bh:=k0 (Kd.an6 (aS bh.z) (Kd.an_ mU) hb);replace HB:=k0 (anH bl hb);clear hb mU))
   go_loopg [5,6] k1 (fun kq v5 v6 w'=>∃ (gI:List (List Int)) (dF:Int),v6=.int .i64 dF∧ak (dr.l1 kq a0 anO bD gI dF=some r)∧ak (kq≤k1)∧ak (Kd.S (Kd.slice 2 (Kd.int .i64)) 28 w' w.heap.size (fun k_=>some k_ ≠ (v5:Value).ownBlock) u3 anO)∧ak (Kd.S (Kd.slice 2 (Kd.int .i64)) 28 w' w.heap.size (fun k_=>some k_ ≠ (u3:Value).ownBlock) v5 gI)∧ak (Below w.heap.size w w'))
   case atStart=>exact ⟨(gX),(0),rs,H',⟨Nat.le_refl _⟩,⟨aS (Kd.anW bh.z (fun _ hk=>hk.2))⟩,⟨aS (Kd.anW dy.z (fun _ hk=>hk.2))⟩,⟨bl⟩⟩
   case round =>
    clear H'
    obtain ⟨gI,dF,rfl,HA,eo,bh,bY,HB⟩:=hrel
    cases gk with
    | zero=>exact absurd HA.z (by simp [dr.l1])
    | succ k2 =>
     have H:=HA.z
     clear HA
     simp only [dr.l1] at H
     by_cases c9:dF < (anO.length:Int)
     case neg =>
      rw [if_neg c9] at H
      have nY:decide (dF < (anO.length:Int))=false:=decide_eq_false c9
      clear c9
      have H':=k0 H
      clear H
      obtain ⟨Bm,Cg,Cq⟩:=Kd.eH bh.z
      subst Cq
      go_wp2
      go_roundg k2
      case measure=>have:=bH.z;have:=eo.z;omega
      case rel=>exact ⟨(gI),(wrap64 (bD+1)),rs,H',⟨by have:=bH.z;have:=eo.z;omega⟩,⟨aS (Kd.anW bY.z (fun _ hk=>trivial))⟩,⟨bl⟩⟩
     rw [if_pos c9] at H
     have nY:=decide_eq_true c9
     clear c9
     have H':=k0 H
     clear H
     obtain ⟨tX,lF,Cj⟩:=Kd.eH bh.z
     subst Cj
     go_wp2
     go_loopg [5,7] k2 (fun kq v5 v7 w'=>∃ (dL:List (List Int)) (aoa:Int),v7=.int .i64 aoa∧ak (dr.l2 kq a0 anO bD dL dF aoa=some r)∧ak (kq≤k2)∧ak (Kd.S (Kd.slice 2 (Kd.int .i64)) 28 w' w.heap.size (fun k_=>some k_ ≠ (v5:Value).ownBlock) (.slice tX anO.length lF) anO)∧ak (Kd.S (Kd.slice 2 (Kd.int .i64)) 28 w' w.heap.size (fun k_=>some k_ ≠ ((.slice tX anO.length lF):Value).ownBlock) v5 dL)∧ak (Below w.heap.size w w'))
     case atStart=>exact ⟨(gI),(0),rs,H',⟨Nat.le_refl _⟩,⟨aS (bh.z)⟩,⟨aS (bY.z)⟩,⟨bl⟩⟩
     case round =>
      clear H'
      obtain ⟨dL,aoa,rfl,HA,iK,bh,bY,HB⟩:=hrel
      cases gk with
      | zero=>exact absurd HA.z (by simp [dr.l2])
      | succ k3 =>
       have H:=HA.z
       clear HA
       simp only [dr.l2] at H
       replace H:=iS H;obtain ⟨c11,H⟩:=H
       have lS:=decide_eq_true c11
       clear c11
       replace H:=iS H;obtain ⟨c12,H⟩:=H
       have p6:=decide_eq_true c12
       clear c12
       by_cases c13:aoa≤((ai anO dF).length:Int)
       case neg =>
        rw [if_neg c13] at H
        have aoJ:decide (aoa≤((ai anO dF).length:Int))=false:=decide_eq_false c13
        clear c13
        have H':=k0 H
        clear H
        have aoA:0≤(dF:Int):=oD
        have nH:dF < (anO.length:Int):=oD
        obtain ⟨mN,Be,B2,e110,uP,wo,wk⟩:=fu (Kd.anY bh.z).2.2 dF aoA nH
        cases e110
        obtain ⟨OA,CK,CC,wj⟩:=Kd.o4 bh.z [] dF aoA (by first|exact nH|exact oD|(have e_:=(Kd.anY bh.z).1;omega))
        obtain ⟨TF,rfl,sk⟩:=CC
        have oh:=wj 0 _ rfl
        rw [Nat.add_zero,show ((Kd.slice 2 (Kd.int .i64))).sz=1 from rfl,Nat.mul_one] at oh
        replace oh:=Option.some.inj (oh.symm.trans uP)
        rw [oh] at sk
        have iL:=k0 (show Kd.R (Kd.int .i64) 2 _ _ _ _ (ai anO dF) from sk)
        clear oh sk
        clear wj CK
        have q9:=k0 wk
        have Na:=k0 wo
        clear wk wo
        replace aoA:=eq_true aoA
        replace nH:=eq_true nH
        go_wp2
        go_roundg k3
        case measure=>have:=bH.z;have:=eo.z;have:=iK.z;omega
        case rel=>exact ⟨(dL),(wrap64 (dF+1)),rs,H',⟨by have:=bH.z;have:=eo.z;have:=iK.z;omega⟩,⟨aS (bh.z)⟩,⟨aS (bY.z)⟩,⟨bl⟩⟩
       rw [if_pos c13] at H
       have aoJ:=decide_eq_true c13
       clear c13
       obtain ⟨qv,ym⟩:∃ y_:List Int,y_=(([bD]:List Int)):=⟨_,rfl⟩
       replace H:(if 0≤aoa then ((some ((ai anO dF).drop (aoa:Int).toNat:List Int)).bind fun gN=>(if qv.length+gN.length < 17592186044416 then ((some (qv ++ gN:List Int)).bind fun gJ=>((mG.f ((ai anO dF).take (aoa:Int).toNat)).bind fun t127=>(if t127.length+gJ.length < 17592186044416 then (if dL.length < 5864062014805 then (dr.l2 k3 a0 anO bD (dL ++ [(t127 ++ gJ)]) dF (wrap64 (aoa+1))) else (none)) else (none)))) else (none))) else (none))=some r:=rH ym H
       have EG:=k0 ym
       clear ym
       replace H:=iS H;obtain ⟨c14,H⟩:=H
       have qC:=eq_true c14
       have B7:=decide_eq_true c14
       clear c14
       have lD:=eq_true (oD:aoa≤((ai anO dF).length:Int))
       obtain ⟨gN,pJ⟩:∃ y_:List Int,y_=((ai anO dF).drop (aoa:Int).toNat):=⟨_,rfl⟩
       replace H:(if qv.length+gN.length < 17592186044416 then ((some (qv ++ gN:List Int)).bind fun gJ=>((mG.f ((ai anO dF).take (aoa:Int).toNat)).bind fun t127=>(if t127.length+gJ.length < 17592186044416 then (if dL.length < 5864062014805 then (dr.l2 k3 a0 anO bD (dL ++ [(t127 ++ gJ)]) dF (wrap64 (aoa+1))) else (none)) else (none)))) else (none))=some r:=rH pJ H
       have uk:=k0 pJ
       clear pJ
       replace H:=iS H;obtain ⟨c16,H⟩:=H
       have xd:=k0 c16
       clear c16
       obtain ⟨gJ,sL⟩:∃ y_:List Int,y_=(qv ++ gN):=⟨_,rfl⟩
       replace H:((mG.f ((ai anO dF).take (aoa:Int).toNat)).bind fun t127=>(if t127.length+gJ.length < 17592186044416 then (if dL.length < 5864062014805 then (dr.l2 k3 a0 anO bD (dL ++ [(t127 ++ gJ)]) dF (wrap64 (aoa+1))) else (none)) else (none)))=some r:=rH sL H
       have BM:=k0 sL
       clear sL
       have uw:=eq_true (oD:0≤aoa)
       have Af:=eq_true (oD:aoa≤((ai anO dF).length:Int))
       obtain ⟨s6,sM⟩:∃ y_:List Int,y_=((ai anO dF).take (aoa:Int).toNat):=⟨_,rfl⟩
       replace H:((mG.f s6).bind fun t127=>(if t127.length+gJ.length < 17592186044416 then (if dL.length < 5864062014805 then (dr.l2 k3 a0 anO bD (dL ++ [(t127 ++ gJ)]) dF (wrap64 (aoa+1))) else (none)) else (none)))=some r:=rH sM H
       have zY:=k0 sM
       clear sM
       replace H:=Option.bind_eq_some_iff.mp H
       obtain ⟨t127,Mc,H⟩:=H
       replace H:(if t127.length+gJ.length < 17592186044416 then (if dL.length < 5864062014805 then (dr.l2 k3 a0 anO bD (dL ++ [(t127 ++ gJ)]) dF (wrap64 (aoa+1))) else (none)) else (none))=some r:=H
       have Ul:=k0 Mc
       clear Mc
       replace H:=iS H;obtain ⟨c20,H⟩:=H
       have VT:=k0 c20
       clear c20
       obtain ⟨lZ,yq⟩:∃ y_:List Int,y_=(t127 ++ gJ):=⟨_,rfl⟩
       replace H:(if dL.length < 5864062014805 then (dr.l2 k3 a0 anO bD (dL ++ [lZ]) dF (wrap64 (aoa+1))) else (none))=some r:=rH yq H
       have HU:=k0 yq
       clear yq
       replace H:=iS H;obtain ⟨c21,H⟩:=H
       have HN:=k0 c21
       clear c21
       obtain ⟨D_,yt⟩:∃ y_:List (List Int),y_=(dL ++ [lZ]):=⟨_,rfl⟩
       replace H:(dr.l2 k3 a0 anO bD D_ dF (wrap64 (aoa+1)))=some r:=rH yt H
       have HV:=k0 yt
       clear yt
       have H':=k0 H
       clear H
       have aoA:0≤(dF:Int):=oD
       have nH:dF < (anO.length:Int):=oD
       obtain ⟨mN,Be,B2,e110,uP,wo,wk⟩:=fu (Kd.anY bh.z).2.2 dF aoA nH
       cases e110
       obtain ⟨OA,CK,CC,wj⟩:=Kd.o4 bh.z [] dF aoA (by first|exact nH|exact oD|(have e_:=(Kd.anY bh.z).1;omega))
       obtain ⟨TF,rfl,sk⟩:=CC
       have oh:=wj 0 _ rfl
       rw [Nat.add_zero,show ((Kd.slice 2 (Kd.int .i64))).sz=1 from rfl,Nat.mul_one] at oh
       replace oh:=Option.some.inj (oh.symm.trans uP)
       rw [oh] at sk
       have iL:=k0 (show Kd.R (Kd.int .i64) 2 _ _ _ _ (ai anO dF) from sk)
       clear oh sk
       clear wj CK
       have q9:=k0 wk
       have Na:=k0 wo
       clear wk wo
       replace aoA:=eq_true aoA
       replace nH:=eq_true nH
       go_wp2_with (first|((with_reducible refine bN (N:=33) rfl ?_);refine Kd.jd (Kd.int .i64) _ 2 ?hg (N:=33) ?hd (xs:=([bD]:List Int)) (inner:=[.int .i64 bD]) (ok:=fun _=>True) (anX:=fun _=>True) ?hr ?hp (fun _ hk=>hk) trivial (Below.refl _ _) (Nat.le_refl _) (by simp) ?_;(case hd=>rfl);(case hg=>rfl);(case hr=>first|(go_simp;done)|(go_simp;rfl));(case hp=>exact (bu.one (show Kd.M (Kd.int .i64) _ _ _ bD [.int .i64 bD] from rfl) (bu.none _ _)));intro DW tT wz hb c_ dc;clear c_ dc;(first|rw [← EG.z] at wz|(simp only [Int.reduceToNat] at wz;rw [← EG.z] at wz));replace bh:=k0 (Kd.an6 (aS bh.z) (Kd.aU wz) hb);replace bY:=k0 (Kd.an6 (aS bY.z) (Kd.aU wz) hb);have oW:=k0 (Kd.cH (Kd.cR wz (Kd.bK (aR iL.z))) (anG bl));replace iL:=k0 (Kd.cQ (aR iL.z) (Kd.aU wz) hb);replace q9:=k0 (Kd.dU (by repeat (first|(with_reducible exact q9.z)|(with_reducible refine Kd.hJ ?_ _)|(with_reducible refine Kd.aoc ?_ _)|(with_reducible refine Kd.gO ?_)|exact q9.z)) hb);replace HB:=k0 (anH bl hb);clear hb wz;have lV:0≤(dF:Int):=oD;have lX:dF < (anO.length:Int):=oD;obtain ⟨xx,zq,vZ,e114,nE,C_,C3⟩:=fu (Kd.anY bh.z).2.2 dF lV lX;obtain rfl:mN=xx:=(by injection e114);obtain ⟨Yq,Jw,Jk,CG⟩:=Kd.o4 bh.z [] dF lV (by first|exact lX|exact oD|(have e_:=(Kd.anY bh.z).1;omega));obtain ⟨afm,rfl,xQ⟩:=Jk;have sB:=CG 0 _ rfl;rw [Nat.add_zero,show ((Kd.slice 2 (Kd.int .i64))).sz=1 from rfl,Nat.mul_one] at sB;replace sB:=Option.some.inj (sB.symm.trans nE);rw [sB] at xQ;have nj:=k0 (show Kd.R (Kd.int .i64) 2 _ _ _ _ (ai anO dF) from xQ);clear sB xQ;clear CG Jw;have zV:=k0 C3;have ap9:=k0 C_;clear C3 C_;replace lV:=eq_true lV;replace lX:=eq_true lX;have Lr:(aoa:Int)≤(((ai anO dF).length:Int):Int):=oD;obtain ⟨i024,Q1,_,Sb,_⟩:=info_parts aoj;have Kb:(ai anO dF).length≤vZ:=ap9.z;have PJ:Kd.C (Kd.int .i64) _ zq (ai anO dF).length (ai anO dF):=(by repeat (first|(with_reducible exact zV.z)|(with_reducible refine Kd.hJ ?_ _)|(with_reducible refine Kd.aoc ?_ _)|(with_reducible refine Kd.gO ?_)|exact zV.z));have aeg:(0:Int)≤(aoa:Int):=oD;have aaB:=YU (P:=Try.prog) 28 2 .i64 Try.underlying28 Q1 1 Sb zq (ai anO dF).length vZ aoa aeg Lr;have Dl:=Kd.UB (m:=(aoa:Int).toNat) (c:=vZ) PJ (by omega) Kb;obtain ⟨vz,hA24⟩:∃ A1,A1=(if vZ=(aoa:Int).toNat then zq else (zq:Option Addr).map (·.add ((aoa:Int).toNat * 1))):=⟨_,rfl⟩;obtain ⟨c24,Ju⟩:∃ c1,c1=vZ - (aoa:Int).toNat:=⟨_,rfl⟩;have FQ:gN.length=(ai anO dF).length - (aoa:Int).toNat:=(by rw [uk.z,List.length_drop]<;>omega);rw [show (ai anO dF).drop (aoa:Int).toNat=gN from uk.z.symm] at Dl;replace Dl:Kd.C (Kd.int .i64) _ vz gN.length gN:=(by rw [hA24];exact Dl);rw [← FQ,← hA24,← Ju] at aaB;have NG:=k0 Dl;have agp:=k0 (show gN.length≤c24 from by rw [FQ,Ju];exact Nat.sub_le_sub_right Kb _);clear Dl PJ Kb Q1 Sb Ju;have agB:=k0 FQ;have agz:=k0 hA24;clear FQ hA24;replace Lr:=eq_true Lr)|((with_reducible refine aoi (b:=.append) (xs:=#[.tmp 33,.tmp 39]) rfl ?_);at_builtin;refine Kd.EI (Kd.int .i64) (w0:=w) w.heap.size rfl (.tmp 33) (.tmp 39) 28 2 (.int .i64 0) 8 rfl Try.underlying28 aoj rfl (by decide) (by omega) DW qv gN _ _ _ (fun k_=>some k_ ≠ (.slice Be (ai anO dF).length B2:Value).ownBlock) (fun _=>False) rfl rfl ?aO ?aR (fun _ _ h=>h) (fun _ h=>h.elim) ?aF ?aB ?aS ?aL ?_;(case aR=>repeat (first|exact (by repeat (first|(with_reducible exact NG.z)|(with_reducible refine Kd.hJ ?_ _)|(with_reducible refine Kd.aoc ?_ _)|(with_reducible refine Kd.gO ?_)|exact NG.z))|(with_reducible refine Kd.hJ ?_ _)|(with_reducible refine Kd.aoc ?_ _)|(with_reducible refine Kd.gO ?_)));(case aB=>exact bl);(case aF=>exact (fun k_ hk=>Kd.fresh' (Kd.bK (aR iL.z)) k_ hk));(case aO=>exact (by (with_reducible repeat (first|apply Kd.b_|apply Kd.bZ|apply Kd.bP));exact Kd.aT oW.z (fun _ hk=>hk.2)));(case aS=>exact (anG bl));(case aL=>have:=xd.out;omega);intro TB Gr ho hb hg bz;rw [← BM.z] at ho;have av:=k0 (Kd.vT (ok:=(fun k_=>some k_ ≠ (u5:Value).ownBlock)) (aS bh.z) hg bz);have ax:=k0 (Kd.vT (ok:=(fun k_=>some k_ ≠ (.slice (some mN) anO.length lF:Value).ownBlock)) (aS bY.z) hg bz);have ay:=k0 (Kd.lz (ok:=(fun k_=>some k_ ≠ (.slice (some mN) anO.length lF:Value).ownBlock∧some k_ ≠ (u5:Value).ownBlock)) (by (with_reducible repeat (first|apply Kd.b_|apply Kd.bZ|apply Kd.bP));exact Kd.aT iL.z (fun _ hk=>⟨⟨hk.1.2,hk.1.1⟩,hk.2⟩)) hg bz);have anC:=k0 (Kd.lz (ok:=(fun k_=>some k_ ≠ (.slice (some mN) anO.length lF:Value).ownBlock∧some k_ ≠ (u5:Value).ownBlock)) (by (with_reducible repeat (first|apply Kd.b_|apply Kd.bZ|apply Kd.bP));exact Kd.aT nj.z (fun _ hk=>⟨⟨hk.2,hk.1.1⟩,hk.1.2⟩)) hg bz);have aD:=k0 (hb);have anE:=k0 (ho);clear bh;clear bY;clear iL;clear nj;clear HB;clear oW;have bh:=av;have bY:=ax;have iL:=ay;have nj:=anC;have HB:=aD;have kT:=anE;clear av ax ay anC aD anE;clear ho hb hg bz;have Gb:0≤(dF:Int):=oD;have Gd:dF < (anO.length:Int):=oD;obtain ⟨WW,Ee,B3,e122,acB,Rm,Q9⟩:=fu (Kd.anY bh.z).2.2 dF Gb Gd;obtain rfl:mN=WW:=(by injection e122);obtain ⟨ahf,aaq,aah,P2⟩:=Kd.o4 bh.z [] dF Gb (by first|exact Gd|exact oD|(have e_:=(Kd.anY bh.z).1;omega));obtain ⟨ano,rfl,Jd⟩:=aah;have Dt:=P2 0 _ rfl;rw [Nat.add_zero,show ((Kd.slice 2 (Kd.int .i64))).sz=1 from rfl,Nat.mul_one] at Dt;replace Dt:=Option.some.inj (Dt.symm.trans acB);rw [Dt] at Jd;have th:=k0 (show Kd.R (Kd.int .i64) 2 _ _ _ _ (ai anO dF) from Jd);clear Dt Jd;clear P2 aaq;have apG:=k0 Q9;have Va:=k0 Rm;clear Q9 Rm;replace Gb:=eq_true Gb;replace Gd:=eq_true Gd;have Ls:(aoa:Int)≤(((ai anO dF).length:Int):Int):=oD;obtain ⟨i026,Q2,_,acq,_⟩:=info_parts aoj;have R8:(ai anO dF).length≤B3:=Va.z;have PK:Kd.C (Kd.int .i64) _ Ee (ai anO dF).length (ai anO dF):=(by repeat (first|(with_reducible exact apG.z)|(with_reducible refine Kd.hJ ?_ _)|(with_reducible refine Kd.aoc ?_ _)|(with_reducible refine Kd.gO ?_)|exact apG.z));have aaC:=O8 (P:=Try.prog) 28 2 .i64 Try.underlying28 Q2 Ee (ai anO dF).length B3 aoa oD Ls R8;have Ka:=Kd.MU (m:=(aoa:Int).toNat) PK (by omega);have KD:s6.length=(aoa:Int).toNat:=(by rw [zY.z,List.length_take];omega);rw [← zY.z] at Ka;rw [← KD] at aaC;have BC:=k0 Ka;have Vb:=k0 (show s6.length≤B3 from by omega);clear Ka PK R8 Q2 acq;have agC:=k0 KD;clear KD;replace Ls:=eq_true Ls)|((with_reducible refine bS (f:=173) rfl ?_);refine gC (some 48) Try.func173 #[.slice Ee s6.length B3] ?_;(with_reducible refine (mG.calls _ _ s6 t127 _ ?aA ?anD Ul.z).mono ?_);(case aA=>exact aC (by repeat (first|(with_reducible exact BC.z)|(with_reducible refine Kd.hJ ?_ _)|(with_reducible refine Kd.aoc ?_ _)|(with_reducible refine Kd.gO ?_)|exact BC.z)));(case anD=>exact Vb.z);rintro e Gs ⟨TD,rfl,aq,hb⟩;refine ⟨_,rfl,?_⟩;replace bh:=k0 (Kd.an6 (aS bh.z) (Kd.aU aq) hb);replace bY:=k0 (Kd.an6 (aS bY.z) (Kd.aU aq) hb);have aoO:=k0 (Kd.cH (Kd.cR (Kd.cR (Kd.cR (Kd.cR aq (Kd.bK (aR iL.z))) (Kd.bK (aR nj.z))) (Kd.bK (aR kT.z))) (Kd.bK (aR th.z))) (anG bl));replace iL:=k0 (Kd.cQ (aR iL.z) (Kd.aU aq) hb);replace nj:=k0 (Kd.cQ (aR nj.z) (Kd.aU aq) hb);replace kT:=k0 (Kd.cQ (aR kT.z) (Kd.aU aq) hb);replace th:=k0 (Kd.cQ (aR th.z) (Kd.aU aq) hb);replace apG:=k0 (Kd.dU (by repeat (first|(with_reducible exact apG.z)|(with_reducible refine Kd.hJ ?_ _)|(with_reducible refine Kd.aoc ?_ _)|(with_reducible refine Kd.gO ?_)|exact apG.z)) hb);replace BC:=k0 (Kd.dU (by repeat (first|(with_reducible exact BC.z)|(with_reducible refine Kd.hJ ?_ _)|(with_reducible refine Kd.aoc ?_ _)|(with_reducible refine Kd.gO ?_)|exact BC.z)) hb);replace HB:=k0 (anH bl hb);obtain ⟨oQ,o9,I1⟩:=Kd.cK kT.z;subst I1)|((with_reducible refine aoi (b:=.append) (xs:=#[.tmp 48,.tmp 49]) rfl ?_);at_builtin;refine Kd.EI (Kd.int .i64) (w0:=w) w.heap.size rfl (.tmp 48) (.tmp 49) 28 2 (.int .i64 0) 8 rfl Try.underlying28 aoj rfl (by decide) (by omega) TD t127 gJ _ _ _ (fun k_=>some k_ ≠ (.slice Be (ai anO dF).length B2:Value).ownBlock∧some k_ ≠ (.slice zq (ai anO dF).length vZ:Value).ownBlock∧some k_ ≠ (.slice oQ gJ.length o9:Value).ownBlock∧some k_ ≠ (.slice Ee (ai anO dF).length B3:Value).ownBlock) (fun _=>False) rfl rfl ?aO ?aR (fun _ _ h=>h) (fun _ h=>h.elim) ?aF ?aB ?aS ?aL ?_;(case aR=>repeat (first|exact (Kd.anT kT.z).2.2|(with_reducible refine Kd.hJ ?_ _)|(with_reducible refine Kd.aoc ?_ _)|(with_reducible refine Kd.gO ?_)));(case aB=>exact bl);(case aF=>exact (fun k_ hk=>⟨Kd.fresh' (Kd.bK (aR iL.z)) k_ hk,Kd.fresh' (Kd.bK (aR nj.z)) k_ hk,Kd.fresh' (Kd.bK (aR kT.z)) k_ hk,Kd.fresh' (Kd.bK (aR th.z)) k_ hk⟩));(case aO=>exact (by (with_reducible repeat (first|apply Kd.b_|apply Kd.bZ|apply Kd.bP));exact Kd.aT aoO.z (fun _ hk=>⟨hk.1.1.1.2,⟨hk.1.1.2,⟨hk.1.2,hk.2⟩⟩⟩)));(case aS=>exact (anG bl));(case aL=>have:=VT.out;omega);intro v131 Gt ho hb hg bz;rw [← HU.z] at ho;have av:=k0 (Kd.vT (ok:=(fun k_=>some k_ ≠ (u5:Value).ownBlock∧some k_ ≠ (.slice oQ gJ.length o9:Value).ownBlock)) (aS bh.z) hg bz);have ax:=k0 (Kd.vT (ok:=(fun k_=>some k_ ≠ (.slice (some mN) anO.length lF:Value).ownBlock∧some k_ ≠ (.slice oQ gJ.length o9:Value).ownBlock)) (aS bY.z) hg bz);have ay:=k0 (Kd.lz (ok:=(fun k_=>some k_ ≠ (.slice (some mN) anO.length lF:Value).ownBlock∧some k_ ≠ (u5:Value).ownBlock∧some k_ ≠ (.slice oQ gJ.length o9:Value).ownBlock)) (by (with_reducible repeat (first|apply Kd.b_|apply Kd.bZ|apply Kd.bP));exact Kd.aT iL.z (fun _ hk=>⟨⟨hk.1.1.1,⟨hk.1.1.2,hk.1.2⟩⟩,hk.2⟩)) hg bz);have anC:=k0 (Kd.lz (ok:=(fun k_=>some k_ ≠ (.slice (some mN) anO.length lF:Value).ownBlock∧some k_ ≠ (u5:Value).ownBlock∧some k_ ≠ (.slice oQ gJ.length o9:Value).ownBlock)) (by (with_reducible repeat (first|apply Kd.b_|apply Kd.bZ|apply Kd.bP));exact Kd.aT nj.z (fun _ hk=>⟨⟨hk.1.1.1,⟨hk.1.1.2,hk.1.2⟩⟩,hk.2⟩)) hg bz);have aD:=k0 (Kd.lz (ok:=(fun k_=>some k_ ≠ (.slice Be (ai anO dF).length B2:Value).ownBlock)) (aR kT.z) hg bz);have anE:=k0 (Kd.lz (ok:=(fun k_=>some k_ ≠ (.slice (some mN) anO.length lF:Value).ownBlock∧some k_ ≠ (u5:Value).ownBlock∧some k_ ≠ (.slice oQ gJ.length o9:Value).ownBlock)) (by (with_reducible repeat (first|apply Kd.b_|apply Kd.bZ|apply Kd.bP));exact Kd.aT th.z (fun _ hk=>⟨⟨hk.1.2,⟨hk.1.1.1,hk.1.1.2⟩⟩,hk.2⟩)) hg bz);have anP:=k0 (hb);have bL:=k0 (ho);clear bh;clear bY;clear iL;clear nj;clear kT;clear th;clear HB;clear aoO;have bh:=av;have bY:=ax;have iL:=ay;have nj:=anC;have kT:=aD;have th:=anE;have HB:=anP;have apa:=bL;clear av ax ay anC aD anE anP bL;clear ho hb hg bz;obtain ⟨qX,rq,xL⟩:=Kd.cK apa.z;subst xL)|((with_reducible refine aoi (b:=.append) (xs:=#[.tmp 41,.tmp 51]) rfl ?_);at_builtin;refine Kd.tA (Kd.slice 2 (Kd.int .i64)) (w0:=w) w.heap.size rfl (.tmp 41) (.tmp 51) 22 28 (.slice none 0 0) 24 rfl Try.underlying22 qI rfl (by decide) (by omega) u5 dL lZ [.slice qX lZ.length rq] (fun k_=>some k_ ≠ (.slice (some mN) anO.length lF:Value).ownBlock∧some k_ ≠ (.slice oQ gJ.length o9:Value).ownBlock) (fun k_=>some k_=(.slice qX lZ.length rq:Value).ownBlock) rfl rfl ?aP (fun k_ b9=>((Kd.aT (ok':=fun k_=>((fun k_=>some k_ ≠ (.slice (some mN) anO.length lF:Value).ownBlock∧some k_ ≠ (.slice oQ gJ.length o9:Value).ownBlock)) k_∧some k_ ≠ (u5:Value).ownBlock) (Kd.jx (Kd.jx (apa.z) (Kd.iR bh.z) (by decide)) (Kd.iR bY.z) (by decide)) (fun k_ hk=>⟨⟨hk.1.2,hk.1.1.2.2.1⟩,hk.2⟩))).1 k_ b9.symm) ?aF ?aO ?aB ?aS ?aL ?_;(case aP=>exact Kd.lg (Kd.aT (Kd.oB rfl (Kd.aT (ok':=fun k_=>((fun k_=>some k_ ≠ (.slice (some mN) anO.length lF:Value).ownBlock∧some k_ ≠ (.slice oQ gJ.length o9:Value).ownBlock)) k_∧some k_ ≠ (u5:Value).ownBlock) (Kd.jx (Kd.jx (apa.z) (Kd.iR bh.z) (by decide)) (Kd.iR bY.z) (by decide)) (fun k_ hk=>⟨⟨hk.1.2,hk.1.1.2.2.1⟩,hk.2⟩))) (fun _ h_=>h_)));(case aB=>exact bl);(case aF=>exact (fun k_ hk=>⟨Kd.fresh' (Kd.vU (aS bh.z)) k_ hk,Kd.fresh' (Kd.bK (aR kT.z)) k_ hk⟩));(case aO=>exact (by (with_reducible repeat (first|apply Kd.di|apply Kd.dm|apply Kd.cS));exact Kd.anW bY.z (fun k_ hk=>⟨⟨hk.1.1,hk.1.2⟩,fun e_=>hk.2 e_⟩)));(case aS=>exact (anG bl));(case aL=>have:=HN.out;omega);intro anf w30 ho hb hg bz;rw [← HV.z] at ho;have av:=k0 (Kd.vT (ok:=(fun k_=>some k_ ≠ (.slice oQ gJ.length o9:Value).ownBlock∧some k_ ≠ (.slice qX lZ.length rq:Value).ownBlock)) (by (with_reducible repeat (first|apply Kd.di|apply Kd.dm|apply Kd.cS));exact Kd.anW bh.z (fun _ hk=>⟨⟨hk.1.2,hk.2⟩,hk.1.1⟩)) hg bz);have ax:=k0 (Kd.lz (ok:=(fun k_=>some k_ ≠ (.slice (some mN) anO.length lF:Value).ownBlock∧some k_ ≠ (.slice oQ gJ.length o9:Value).ownBlock∧some k_ ≠ (.slice qX lZ.length rq:Value).ownBlock)) (by (with_reducible repeat (first|apply Kd.b_|apply Kd.bZ|apply Kd.bP));exact Kd.aT iL.z (fun _ hk=>⟨⟨hk.1.1,⟨hk.1.2.2,hk.2⟩⟩,hk.1.2.1⟩)) hg bz);have ay:=k0 (Kd.lz (ok:=(fun k_=>some k_ ≠ (.slice (some mN) anO.length lF:Value).ownBlock∧some k_ ≠ (.slice oQ gJ.length o9:Value).ownBlock∧some k_ ≠ (.slice qX lZ.length rq:Value).ownBlock)) (by (with_reducible repeat (first|apply Kd.b_|apply Kd.bZ|apply Kd.bP));exact Kd.aT nj.z (fun _ hk=>⟨⟨hk.1.1,⟨hk.1.2.2,hk.2⟩⟩,hk.1.2.1⟩)) hg bz);have anC:=k0 (Kd.Ia (aR kT.z) (Kd.iR (aS bY.z)) (by decide) hg);have aD:=k0 (Kd.lz (ok:=(fun k_=>some k_ ≠ (.slice (some mN) anO.length lF:Value).ownBlock∧some k_ ≠ (.slice oQ gJ.length o9:Value).ownBlock∧some k_ ≠ (.slice qX lZ.length rq:Value).ownBlock)) (by (with_reducible repeat (first|apply Kd.b_|apply Kd.bZ|apply Kd.bP));exact Kd.aT th.z (fun _ hk=>⟨⟨hk.1.1,⟨hk.1.2.2,hk.2⟩⟩,hk.1.2.1⟩)) hg bz);have anE:=k0 (hb);have anP:=k0 (ho);clear bh;clear iL;clear nj;clear kT;clear th;clear HB;clear bY;clear apa;have bh:=av;have iL:=ax;have nj:=ay;have kT:=anC;have th:=aD;have HB:=anE;have Vs:=anP;clear av ax ay anC aD anE anP;clear ho hb hg bz))
       go_roundg k3
       case measure=>have:=bH.z;have:=eo.z;have:=iK.z;omega
       case rel=>exact ⟨(D_),(wrap64 (aoa+1)),rs,H',⟨by have:=bH.z;have:=eo.z;have:=iK.z;omega⟩,⟨aS (Kd.anW bh.z (fun _ hk=>hk.2))⟩,⟨aS (Kd.anW Vs.z (fun _ hk=>hk.1))⟩,⟨bl⟩⟩
end Go.Proofs.Ytoebojnhchocaaa.G
/- Set with little white space, by a program. -/
