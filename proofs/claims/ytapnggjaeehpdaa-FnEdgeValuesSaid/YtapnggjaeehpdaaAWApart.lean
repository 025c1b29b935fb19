/- Words on rows, worlds and walks that the texts of one law use (chosen by a program out of the seat's printed words). No condition beyond each theorem's own. -/
import Derived.Test.YtapnggjaeehpdaaAWWords
import Derived.Test.YtapnggjaeehpdaaAWLast
namespace Go.Proofs.bB.dI
open Go.RowKit
namespace Kd
/-- An element with its index: its blocks are those that f gives to it. -/
def tag {α:Type} (f:Nat→Nat) (d:Kd α):Kd (α × Nat) where
 sz:=d.sz
 E:=d.E
 K:=fun w x cs=>d.K w x.1 cs
 M:=fun w base ok x cs=>d.M w base (fun k=>ok k∧f k=x.2) x.1 cs
 oT:=fun h=>d.oT h
 mD:=fun h=>d.mD h
 ug:=fun hb h=>d.ug hb h
 jJ:=fun h=>d.jJ h
 gK:=fun hok h=>d.gK (fun k hk=>⟨hok k hk.1,hk.2⟩) h
 nk:=fun h=>d.gK (fun _ hk=>⟨⟨hk.1.1,hk.2⟩,hk.1.2⟩) (d.nk h)
 nr:=fun hm h=>d.nr (fun k hk=>hm k hk.1) h
 uh:=fun hb h=>d.uh hb h
/-- Nothing but its cells: no block is said of it. -/
def bare {α:Type} (d:Kd α):Kd α where
 sz:=d.sz
 E:=d.E
 K:=d.K
 M:=fun w base _ x cs=>d.M w base (fun _=>False) x cs
 oT:=fun h=>d.oT h
 mD:=fun h=>d.mD h
 ug:=fun hb h=>d.ug hb h
 jJ:=fun h=>d.jJ h
 gK:=fun _ h=>h
 nk:=fun h=>h
 nr:=fun _ h=>d.nr (fun _ hk=>hk.elim) h
 uh:=fun hb h=>d.uh hb h
/-- The cells themselves. -/
def raw (sz:Nat):Kd (List Value) where
 sz:=sz
 E:=[]
 K:=fun _ x cs=>cs=x∧cs.length=sz∧∀ u ∈ cs,u.oneCell'=true
 M:=fun _ _ _ x cs=>cs=x∧cs.length=sz∧∀ u ∈ cs,u.oneCell'=true
 oT:=fun h=>h.2.1
 mD:=fun h=>h.2.2
 ug:=fun _ h=>h
 jJ:=fun h=>h
 gK:=fun _ h=>h
 nk:=fun h=>h
 nr:=fun _ h=>h
 uh:=fun _ h=>h
/-- A row of elements (type e) of the call's own, no two of which lead to one block. -/
def S {α:Type} (d:Kd α) (e:Nat) (w:World) (base:Nat) (ok:Nat→Prop) (v:Value) (xs:List α):Prop:=∃ f,(tag f d).R e w base ok v xs.zipIdx
section
variable {α β:Type} {d:Kd α} {d':Kd β} {e e':Nat} {w w1 W:World} {base b:Nat} {ok ok' CK Wk:Nat→Prop} {u v:Value} {xs:List α} {ys:List β}
theorem vE {xs:List α} {j:Nat} {p:α} (h:xs[j]?=some p):xs.zipIdx[j]?=some (p,j):=by rw [List.getElem?_zipIdx,h,Nat.zero_add];rfl
theorem qH (h:S d e w base ok v xs):d.R e w base ok v xs:=by
 obtain ⟨f,h0,inner,ho,hr⟩:=h
 rw [List.length_zipIdx] at ho
 exact ⟨h0,inner,ho,by have:=hr.1;rw [List.length_zipIdx] at this;exact this,fun j p hj=>d.gK (fun _ hk=>hk.1) (hr.2 j (p,j) (vE hj))⟩
/-- Where a row begins (any row of one's own begins at its block's head). -/
theorem Q9 {ad:Addr} {n cap:Nat} (h:d.R e w base ok (.slice (some ad) n cap) xs):∃ g,ad=⟨g,0,none⟩:=by
 obtain ⟨_,inner,ho,hr⟩:=h
 rcases ho.2 with ⟨hv,_⟩|⟨g,cap',cur,hv,_⟩
 ·cases hv
 ·injection hv with ha _ _
  injection ha with ha
  exact ⟨g,ha⟩
theorem abd {ad : Addr} {n cap : Nat} (h : d.R e W base ok (.slice (some ad) n cap) xs) (z : α) (i : Int) (h0 : 0 ≤ i) (h1 : i < n) :
  ∃ c,c.length=d.sz∧d.M W base (fun k=>ok k∧some k ≠ (Value.slice (some ad) n cap).ownBlock) (xs.getD i.toNat z) c∧∀ j u,c[j]?=some u→W.cell? (ad.add (i.toNat * d.sz+j))=some u:=by
 obtain ⟨g,rfl⟩:=Q9 h
 obtain ⟨c,arU,hM,o7,_⟩:=DB h z i h0 h1
 refine ⟨c,arU,d.gK (fun k hk=>⟨hk.1,fun he=>hk.2 (by simpa [Value.ownBlock] using he)⟩) hM,fun j u hu=>?_⟩
 rw [nA,Nat.zero_add]
 exact o7 j u hu
/-- A row whose elements lead to nothing: its blocks are its own one. -/
theorem oV (hE:d.E=[]) (h:d.R e w base ok v xs):d.R e w base (fun k=>some k=v.ownBlock) v xs:=by
 obtain ⟨h0,inner,ho,hr⟩:=h
 refine ⟨fun k hk=>hk.symm,inner,ho,hr.nI (fun p c hp=>d.gK (fun k hk=>?_) (d.nk hp))⟩
 obtain ⟨_,_,_,q,hq,_⟩:=hk
 rw [hE] at hq
 cases hq
theorem ase (d:Kd α) (e:Nat) (w:World) (base:Nat) (ok:Nat→Prop):S d e w base ok (.slice none 0 0) []:=⟨fun _=>0,p6 _ _ _ _ _⟩
theorem b6 (h:S d e w base ok v xs) (hok:∀ k,ok k→ok' k):S d e w base ok' v xs:=by
 obtain ⟨f,h⟩:=h
 exact ⟨f,aqM h hok⟩
theorem Rd (h:S d e w base ok v xs):S d e w base (fun k=>ok k∧base≤k∧k < w.heap.size∧∃ q,q ∈ e :: d.E∧∃ cells,w.heap[k]?=some (.cells cells q (0,0))) v xs:=by
 obtain ⟨f,h⟩:=h
 exact ⟨f,ar7 h⟩
theorem abi (h:S d e w base ok v xs) (hm:∀ k,ok k→w1.heap[k]?=w.heap[k]?):S d e w1 base ok v xs:=by
 obtain ⟨f,h⟩:=h
 exact ⟨f,BJ h hm⟩
theorem fT {base':Nat} (h:S d e w base ok v xs) (hb:base'≤base):S d e w base' ok v xs:=by
 obtain ⟨f,h⟩:=h
 exact ⟨f,cA h hb⟩
theorem La (h:S d e w base ok v xs) (hm:∀ k,ok k→k < w.heap.size→w1.heap[k]?=w.heap[k]?):S d e w1 base ok v xs :=
 b6 (abi (Rd h) (fun k hk=>hm k hk.1 hk.2.2.1)) (fun _ hk=>hk.1)
theorem zN (h:S d e w base ok v xs) (hb:Below w.heap.size w w1):S d e w1 base ok v xs:=La h (fun k _ hk=>hb.block k hk)
theorem iU (h:S d e w base ok v xs) (o:Obj):S d e (w.alloc o) base ok v xs:=zN h (eu (Below.refl _ _) o)
theorem gf (h:S d e w base ok v xs):S d e w.drew base ok v xs:=zN h (xR (Below.refl _ _))
theorem iV (h:S d e w base ok v xs) (m:Nat):S d e (w.drewN m) base ok v xs:=zN h (fh (Below.refl _ _) m)
theorem oW (h:S d e w base ok v xs) {p:Addr} (hok:∀ k,ok k→k ≠ p.block) (u:Value):S d e (w.setCell p u) base ok v xs:=La h (fun k ho _=>Below.heap_setCell w p u k (hok k ho))
theorem p8 (h:S d e w base ok v xs) {g:Nat} (hk:aqB w w1 g none) (hok:∀ k,ok k→k ≠ g):S d e w1 base ok v xs:=La h (fun k ho hlt=>hk.2 k hlt (hok k ho) (by simp))
theorem xO (h:S d e w base ok v xs) {g t:Nat} {cells:Array Value} (hb:w.heap[g]?=some (.cells cells t (0,0))) (ht:∀ q,q ∈ e :: d.E→q ≠ t):S d e w base (fun k=>ok k∧k ≠ g) v xs:=by
 obtain ⟨f,h⟩:=h
 exact ⟨f,GW h hb ht⟩
theorem fH (h:S d e w base ok v xs):∀ k,v.ownBlock=some k→∃ cells,w.heap[k]?=some (.cells cells e (0,0)):=BM (qH h)
theorem p9 (h:S d e w base ok v xs):∀ k,v.ownBlock=some k→k < w.heap.size:=eZ (qH h)
theorem nw (h:S d e w base ok v xs):∀ k,v.ownBlock=some k→base≤k:=cm (qH h)
theorem K8 (h:S d e W base ok u xs) (hbase:∀ k,v.ownBlock=some k→W.heap.size≤k) (hb:Below W.heap.size W w1):S d e w1 base (fun k=>ok k∧some k ≠ v.ownBlock) u xs:=by
 obtain ⟨f,h⟩:=h
 exact ⟨f,K6 h hbase hb⟩
theorem oX (h:S d e w1 W.heap.size ok v xs) (hlt:∀ k,u.ownBlock=some k→k < W.heap.size):S d e w1 W.heap.size (fun k=>ok k∧some k ≠ u.ownBlock) v xs:=by
 obtain ⟨f,h⟩:=h
 exact ⟨f,kS h hlt⟩
/-- Behind an append to v (it left v1): what is held apart from v is held apart from v1. -/
theorem mF {v1:Value} (h:S d e W base (fun k=>ok k∧some k ≠ v.ownBlock) u xs) (hg:W.grownBy w1 v.ownBlock) (bg:v1.ownBlock=v.ownBlock∨∃ b,v1.ownBlock=some b∧W.heap.size≤b):S d e w1 base (fun k=>ok k∧some k ≠ v1.ownBlock) u xs:=by
 obtain ⟨f,h⟩:=h
 exact ⟨f,arZ h hg bg⟩
/-- Elements that lead to nothing. -/
theorem Rc (h:(bare d).R e w base ok v xs):S d e w base ok v xs:=by
 obtain ⟨h0,inner,ho,hr⟩:=h
 refine ⟨fun _=>0,h0,inner,by rw [List.length_zipIdx];exact ho,by rw [List.length_zipIdx];exact hr.1,fun j p hj=>?_⟩
 rw [List.getElem?_zipIdx,Nat.zero_add] at hj
 obtain ⟨x,hx,rfl⟩:=Option.map_eq_some_iff.1 hj
 exact d.gK (fun _ hk=>hk.elim) (hr.2 j x hx)
/-- The owner may be told anew where nothing is said. -/
theorem abh {f f':Nat→Nat} {zs:List (α × Nat)} (h:(tag f d).R e w base ok v zs) (hf:∀ k,ok k→k < w.heap.size→f' k=f k):(tag f' d).R e w base ok v zs:=by
 obtain ⟨h0,inner,ho,hr⟩:=ar7 h
 exact ⟨fun k hk=>(h0 k hk).1,inner,ho,hr.1,fun j p hj=>d.gK (fun k hk=>⟨⟨hk.1.1.1,hk.1.2⟩,(hf k hk.1.1.1 hk.1.1.2.2.1).trans hk.2⟩) (hr.2 j p hj)⟩
end
section
variable {α β:Type} {d:Kd α} {d':Kd β} {e e' g:Nat} {w w1 W:World} {base b:Nat} {ok ok' CK Wk:Nat→Prop} {u v:Value} {xs:List α} {ys:List β}
theorem arl (h:S d e w base ok v xs) {t:Nat} {cells:Array Value} (hb:w.heap[g]?=some (.cells cells t (0,0))) (ht:e ≠ t):some g ≠ v.ownBlock:=aro (qH h) hb ht
theorem K_ (h:S d e w base ok v xs) (hp:0 < xs.length):∃ g cap,v=.slice (some ⟨g,0,none⟩) xs.length cap∧base≤g∧g < w.heap.size∧∃ cells,w.heap[g]?=some (.cells cells e (0,0)):=qG (qH h) hp
theorem zM (h:S d e w base ok v xs):v.ownBlock=none∨∃ k,v.ownBlock=some k∧base≤k:=Q8 (qH h)
theorem dL (h:S d e w base ok v xs):∃ A c,v=.slice A xs.length c:=cy (qH h)
theorem a_ {A:Option Addr} {n c:Nat} (h:S d e w base ok (.slice A n c) xs):n=xs.length∧n≤c∧d.C w A xs.length xs:=aqP (qH h)
/-- Only read: its cells and what it leads to, as_ the row has them. -/
theorem aq9 {ad : Addr} {n cap : Nat} (h : S d e W base ok (.slice (some ad) n cap) xs) (z : α) (i : Int) (h0 : 0 ≤ i) (h1 : i < n) :
  ∃ c,c.length=d.sz∧d.M W base (fun k=>ok k∧some k ≠ (Value.slice (some ad) n cap).ownBlock) (xs.getD i.toNat z) c∧∀ j u,c[j]?=some u→W.cell? (ad.add (i.toNat * d.sz+j))=some u:=abd (qH h) z i h0 h1
theorem XE (xs:List α) (p:α):(xs ++ [p]).zipIdx=xs.zipIdx ++ [(p,xs.length)]:=by rw [List.zipIdx_append];simp
end
section
open Classical in
/-- The next element's blocks are okp: none is one of v's (okv). -/
theorem Ri {α:Type} {d:Kd α} {e base:Nat} {CK:Nat→Prop} {w:World} {v:Value} {xs:List α} (h:S d e w base CK v xs) (m:Nat) (bw:Nat→Prop) (hap:∀ k,bw k→¬ CK k):∃ f,(∀ k,bw k→f k=m)∧(tag f d).R e w base CK v xs.zipIdx:=by
 obtain ⟨f,h⟩:=h
 exact ⟨fun k=>if bw k then m else f k,fun k hk=>if_pos hk,abh h (fun k hk _=>if_neg (fun h2=>hap k h2 hk))⟩
variable {P:Program} {ops:Array Oper} {rest:List Oper} {o:Oper} {a:Act} {Q:Exit→Act→World→Prop} {Kc:Act→World→Prop} {α:Type}
/-- append(v, x), behind 'at_builtin': x's blocks are okp, none of them v's. -/
theorem asc (d : Kd α) {w0 W : World} (base : Nat) (hgd : o.guard = none) (s x : Operand) (t e : TypeId) (z : Value) (bytes : Nat)
  (ho:o.op=.call { callee:=.builtin .append,args:=#[s,x],argTypes:=#[t,t] })
  (ht:P.underlying t=some (.slice e)) (hinfo:(P.info? e).map (fun i=>(i.zero,i.size,i.bytes))=some (some z,d.sz,bytes)) (hz:z.cells.size=d.sz) (hs0:0 < d.sz) (hb0:0 < bytes)
  (v:Value) (xs:List α) (p:α) (cs:List Value) (ok bw:Nat→Prop) (hs:a.eval s=v) (hx:a.eval x=.slice (some ⟨W.heap.size,0,none⟩) 1 1) (hp:d.M W base bw p cs) (kr:∀ k,bw k→ok k∧some k ≠ v.ownBlock) (art:∀ k,W.heap.size≤k→ok k)
  (HO:S d e W base (fun k=>ok k∧¬ bw k) v xs) (HB:Below base w0 W) (hbase:base≤W.heap.size) (hl:(xs.length+1) * bytes≤140737488355328)
  (h:∀ v1 w1,S d e w1 base ok v1 (xs ++ [p])→Below base w0 w1→W.grownBy w1 v.ownBlock→(v1.ownBlock=v.ownBlock∨∃ b,v1.ownBlock=some b∧W.heap.size≤b)→wpList P ops Q rest (a.put o.dst v1) w1) :
  wpList P ops Q (o :: rest) a (W.alloc (.cells cs.toArray e)):=by
 obtain ⟨f,hf,hR⟩:=Ri HO xs.length bw (fun _ hk h2=>h2.2 hk)
 refine asb (tag f d) base hgd s x t e z bytes ho ht hinfo hz hs0 hb0 v xs.zipIdx (p,xs.length) cs ok bw hs hx (d.gK (fun k hk=>⟨hk,hf k hk⟩) hp) kr art (aqM hR (fun _ hk=>hk.1)) HB hbase (by rw [List.length_zipIdx];exact hl) ?_
 intro v1 w1 hr
 rw [← XE] at hr
 exact h v1 w1 ⟨f,hr⟩
theorem Rb (d : Kd α) {w0 W : World} (base : Nat) (hw : Region.wanted o (yielded ops a.tmps) = true) (s x : Operand) (t e : TypeId) (z : Value) (bytes : Nat)
  (ho:o.op=.call { callee:=.builtin .append,args:=#[s,x],argTypes:=#[t,t] })
  (ht:P.underlying t=some (.slice e)) (hinfo:(P.info? e).map (fun i=>(i.zero,i.size,i.bytes))=some (some z,d.sz,bytes)) (hz:z.cells.size=d.sz) (hs0:0 < d.sz) (hb0:0 < bytes)
  (v:Value) (xs:List α) (p:α) (cs:List Value) (ok bw:Nat→Prop) (hs:a.eval s=v) (hx:a.eval x=.slice (some ⟨W.heap.size,0,none⟩) 1 1) (hp:d.M W base bw p cs) (kr:∀ k,bw k→ok k∧some k ≠ v.ownBlock) (art:∀ k,W.heap.size≤k→ok k)
  (HO:S d e W base (fun k=>ok k∧¬ bw k) v xs) (HB:Below base w0 W) (hbase:base≤W.heap.size) (hl:(xs.length+1) * bytes≤140737488355328)
  (h:∀ v1 w1,S d e w1 base ok v1 (xs ++ [p])→Below base w0 w1→W.grownBy w1 v.ownBlock→(v1.ownBlock=v.ownBlock∨∃ b,v1.ownBlock=some b∧W.heap.size≤b)→Kc (a.put o.dst v1) w1) :
  if Region.wanted o (yielded ops a.tmps)=true then Oper.wp P o a (W.alloc (.cells cs.toArray e)) Kc Q else Kc (a.put o.dst undef) (W.alloc (.cells cs.toArray e)):=by
 obtain ⟨f,hf,hR⟩:=Ri HO xs.length bw (fun _ hk h2=>h2.2 hk)
 refine Q6 (tag f d) base hw s x t e z bytes ho ht hinfo hz hs0 hb0 v xs.zipIdx (p,xs.length) cs ok bw hs hx (d.gK (fun k hk=>⟨hk,hf k hk⟩) hp) kr art (aqM hR (fun _ hk=>hk.1)) HB hbase (by rw [List.length_zipIdx];exact hl) ?_
 intro v1 w1 hr
 rw [← XE] at hr
 exact h v1 w1 ⟨f,hr⟩
/-- A literal whose elements lead to nothing. -/
theorem zP (d : Kd α) {w0 W : World} (base e : Nat) (hgd : o.guard = none) {N : Tmp} (_hd : o.dst = some N) {xs : List α} {inner : List Value} {ok bw : Nat → Prop}
  (hrun:(execOp a.eval o).run P W=.ok (.value (.slice (some ⟨W.heap.size,0,none⟩) xs.length xs.length)) (W.alloc (.cells inner.toArray e)))
  (asf:aH (d.M W base (fun _=>False)) d.sz xs inner) (_hok:∀ k,bw k→ok k) (art:ok W.heap.size) (HB:Below base w0 W) (hbase:base≤W.heap.size) (hm:xs.length≤9223372036854775807)
  (h:∀ v1 w1,S d e w1 base ok v1 xs→Below base w0 w1→W.grownBy w1 none→(∃ b,v1.ownBlock=some b∧W.heap.size≤b)→wpList P ops Q rest (a.put o.dst v1) w1):wpList P ops Q (o :: rest) a W :=
 gw (bare d) base e hgd _hd (ok:=ok) (bw:=ok) hrun asf (fun _ hk=>hk) art HB hbase hm (fun v1 w1 hr=>h v1 w1 (Rc hr))
theorem Rf (d : Kd α) {w0 W : World} (base e : Nat) (hw : Region.wanted o (yielded ops a.tmps) = true) {N : Tmp} (_hd : o.dst = some N) {xs : List α} {inner : List Value} {ok bw : Nat → Prop}
  (hrun:(execOp a.eval o).run P W=.ok (.value (.slice (some ⟨W.heap.size,0,none⟩) xs.length xs.length)) (W.alloc (.cells inner.toArray e)))
  (asf:aH (d.M W base (fun _=>False)) d.sz xs inner) (_hok:∀ k,bw k→ok k) (art:ok W.heap.size) (HB:Below base w0 W) (hbase:base≤W.heap.size) (hm:xs.length≤9223372036854775807)
  (h:∀ v1 w1,S d e w1 base ok v1 xs→Below base w0 w1→W.grownBy w1 none→(∃ b,v1.ownBlock=some b∧W.heap.size≤b)→Kc (a.put o.dst v1) w1) :
  if Region.wanted o (yielded ops a.tmps)=true then Oper.wp P o a W Kc Q else Kc (a.put o.dst undef) W :=
 GU (bare d) base e hw _hd (ok:=ok) (bw:=ok) hrun asf (fun _ hk=>hk) art HB hbase hm (fun v1 w1 hr=>h v1 w1 (Rc hr))
end
/-- Element i is these cells; the others are d's. -/
def atj {α:Type} (f:Nat→Nat) (d:Kd α) (i:Nat) (c:List Value):Kd (α × Nat) where
 sz:=d.sz
 E:=d.E
 K:=fun w x cs=>(x.2=i→cs=c∧cs.length=d.sz∧∀ u ∈ cs,u.oneCell'=true)∧(x.2 ≠ i→d.K w x.1 cs)
 M:=fun w base ok x cs=>(x.2=i→cs=c∧cs.length=d.sz∧∀ u ∈ cs,u.oneCell'=true)∧(x.2 ≠ i→d.M w base (fun k=>ok k∧f k=x.2) x.1 cs)
 oT:=fun {w x cs} h=>by
  by_cases hx:x.2=i
  ·exact (h.1 hx).2.1
  ·exact d.oT (h.2 hx)
 mD:=fun {w x cs} h=>by
  by_cases hx:x.2=i
  ·exact (h.1 hx).2.2
  ·exact d.mD (h.2 hx)
 ug:=fun hb h=>⟨h.1,fun hx=>d.ug hb (h.2 hx)⟩
 jJ:=fun h=>⟨h.1,fun hx=>d.jJ (h.2 hx)⟩
 gK:=fun hok h=>⟨h.1,fun hx=>d.gK (fun k hk=>⟨hok k hk.1,hk.2⟩) (h.2 hx)⟩
 nk:=fun h=>⟨h.1,fun hx=>d.gK (fun _ hk=>⟨⟨hk.1.1,hk.2⟩,hk.1.2⟩) (d.nk (h.2 hx))⟩
 nr:=fun hm h=>⟨h.1,fun hx=>d.nr (fun k hk=>hm k hk.1) (h.2 hx)⟩
 uh:=fun hb h=>⟨h.1,fun hx=>d.uh hb (h.2 hx)⟩
def H {α:Type} (d:Kd α) (e:Nat) (w:World) (base:Nat) (ok:Nat→Prop) (v:Value) (xs:List α) (i:Int) (dP:Nat→Prop) (c:List Value):Prop :=
 (∀ k,dP k→ok k)∧∃ f,(atj f d i.toNat c).R e w base (fun k=>ok k∧¬ dP k) v xs.zipIdx
section
variable {α β:Type} {d:Kd α} {e e' g n cap:Nat} {w w1 W:World} {base:Nat} {ok ok' dP bw:Nat→Prop} {u v:Value} {xs:List α} {i:Int} {c:List Value}
/-- Element i, lent: its cells, its blocks, and the row without it. -/
theorem Re (h : S d e W base ok (.slice (some ⟨g, 0, none⟩) n cap) xs) (z : α) (i : Int) (h0 : 0 ≤ i) (h1 : i < n) :
  ∃ (dP:Nat→Prop) (c:List Value),c.length=d.sz∧d.M W base dP (xs.getD i.toNat z) c∧(∀ j u,c[j]?=some u→W.cell? ⟨g,i.toNat * d.sz+j,none⟩=some u)∧(∀ k,dP k→ok k∧k ≠ g)∧H d e W base ok (.slice (some ⟨g,0,none⟩) n cap) xs i dP c:=by
 obtain ⟨f,hR⟩:=h
 have hn:=(aqP hR).1
 rw [List.length_zipIdx] at hn
 have hgo:some g=(Value.slice (some ⟨g,0,none⟩) n cap).ownBlock:=by simp [Value.ownBlock]
 obtain ⟨hok0,inner,ho,hr⟩:=hR
 have hil:i.toNat < xs.length:=by omega
 have hlen:inner.length=xs.length * d.sz:=by have:=hr.1;rw [List.length_zipIdx] at this;exact this
 have HZ:i.toNat * d.sz+d.sz≤inner.length:=by rw [hlen,← Nat.succ_mul];exact Nat.mul_le_mul_right _ hil
 have hM:=hr.2 i.toNat _ (vE (List.getElem?_eq_getElem hil))
 have MX:∀ k,some k ≠ (Value.slice (some ⟨g,0,none⟩) n cap).ownBlock→k ≠ g:=fun k hk he=>hk (by rw [he];exact hgo)
 refine ⟨fun k=>(ok k∧k ≠ g)∧f k=i.toNat,(inner.drop (i.toNat * d.sz)).take d.sz,by rw [List.length_take,List.length_drop];omega,?_,fun j u hu=>?_,fun k hk=>hk.1,fun k hk=>hk.1.1,f,fun k hk=>⟨hok0 k hk,fun h2=>h2.1.2 ?_⟩,inner,ho,hr.1,fun m p hm=>?_⟩
 ·rw [List.getD_eq_getElem?_getD, List.getElem?_eq_getElem hil]
  exact d.gK (fun k hk=>⟨⟨hk.1.1,MX k hk.1.2⟩,hk.2⟩) hM
 ·rw [List.getElem?_take] at hu
  split at hu
  ·rw [List.getElem?_drop] at hu
   have:=ho.cells (g:=g) hgo.symm _ u hu
   rwa [add_plain] at this
  ·cases hu
 ·rw [← hgo] at hk;injection hk with hk;exact hk.symm
 ·have hold := hr.2 m p hm
  have cW:p.2=m:=by
   rw [List.getElem?_zipIdx,Nat.zero_add] at hm
   obtain ⟨q,_,rfl⟩:=Option.map_eq_some_iff.1 hm
   rfl
  refine ⟨fun hx=>?_,fun hx=>d.gK (fun k hk=>⟨⟨⟨hk.1.1,fun h2=>hx ?_⟩,hk.1.2⟩,hk.2⟩) hold⟩
  ·have yq : m = i.toNat := by omega
   subst yq
   exact ⟨rfl,d.oT (d.jJ hM),d.mD (d.jJ hM)⟩
  ·rw [← hk.2];exact h2.2
open Classical in
/-- The element put back: its blocks are among those that were lent. -/
theorem Qx (h:H d e w base ok v xs i dP c) {x':α} (hM:d.M w base bw x' c) (hok:∀ k,bw k→dP k):S d e w base ok v (xs.set i.toNat x'):=by
 obtain ⟨ho,f,h0,inner,hown,hr⟩:=h
 refine ⟨fun k=>if dP k then i.toNat else f k,fun k hk=>(h0 k hk).1,inner,by rw [List.length_zipIdx,List.length_set];rw [List.length_zipIdx] at hown;exact hown,by have:=hr.1;rw [List.length_zipIdx] at this;rw [List.length_zipIdx,List.length_set];exact this,fun m p hm=>?_⟩
 rw [List.getElem?_zipIdx,Nat.zero_add] at hm
 obtain ⟨q,hq,rfl⟩:=Option.map_eq_some_iff.1 hm
 have hml:m < xs.length:=by
  have:=(List.getElem?_eq_some_iff.1 hq).1
  rwa [List.length_set] at this
 by_cases yq:m=i.toNat
 ·subst yq
  rw [List.getElem?_set_self hml] at hq
  injection hq with hq
  subst hq
  have hc:=((hr.2 i.toNat _ (vE (List.getElem?_eq_getElem hml))).1 rfl).1
  show d.M w base _ x' ((inner.drop (i.toNat * d.sz)).take d.sz)
  rw [show (inner.drop (i.toNat * d.sz)).take d.sz=c from hc]
  exact d.gK (fun k hk=>⟨⟨ho k (hok k hk),fun he=>(h0 k he.symm).2 (hok k hk)⟩,if_pos (hok k hk)⟩) hM
 ·rw [List.getElem?_set_ne (Ne.symm yq)] at hq
  exact d.gK (fun k hk=>⟨⟨hk.1.1.1,hk.1.2⟩,(if_neg hk.1.1.2).trans hk.2⟩) ((hr.2 m (q,m) (vE hq)).2 yq)
/-- What is lent may take in what is new. -/
theorem Z1 (h:H d e w base ok v xs i dP c):H d e w base ok v xs i (fun k=>dP k∨ok k∧w.heap.size≤k) c:=by
 obtain ⟨ho,f,h⟩:=h
 exact ⟨fun k hk=>hk.elim (ho k) (fun h2=>h2.1),f,aqM (ar7 h) (fun k hk=>⟨hk.1.1,fun h2=>h2.elim hk.1.2 (fun h3=>by have:=hk.2.2.1;omega)⟩)⟩
theorem Qz (h:H d e w base ok v xs i dP c) (hm:∀ k,ok k→¬ dP k→k < w.heap.size→w1.heap[k]?=w.heap[k]?):H d e w1 base ok v xs i dP c:=by
 obtain ⟨ho,f,h⟩:=h
 exact ⟨ho,f,BL h (fun k hk hlt=>hm k hk.1 hk.2 hlt)⟩
/-- A row that was lent has been written (appended to, stored into). -/
theorem Qy (h:H d e w base ok v xs i dP c) {row:Option Nat} (hg:w.grownBy w1 row) (hrow:∀ k,row=some k→dP k):H d e w1 base ok v xs i dP c :=
 Qz h (fun k _ hn hlt=>hg.block k hlt (fun he=>hn (hrow k he.symm)))
theorem KI (h:H d e w base ok v xs i dP c) (hb:Below w.heap.size w w1):H d e w1 base ok v xs i dP c:=Qz h (fun k _ _ hlt=>hb.block k hlt)
theorem ZU (h:H d e w base ok v xs i dP c) (o:Obj):H d e (w.alloc o) base ok v xs i dP c:=KI h (eu (Below.refl _ _) o)
theorem ZW (h:H d e w base ok v xs i dP c):H d e w.drew base ok v xs i dP c:=KI h (xR (Below.refl _ _))
theorem ZX (h:H d e w base ok v xs i dP c) (m:Nat):H d e (w.drewN m) base ok v xs i dP c:=KI h (fh (Below.refl _ _) m)
/-- ok may be told anew where the row and what is lent allow it. -/
theorem ZY (h:H d e w base ok v xs i dP c) (hok:∀ k,ok k→ok' k):H d e w base ok' v xs i dP c:=by
 obtain ⟨ho,f,h⟩:=h
 exact ⟨fun k hk=>hok k (ho k hk),f,aqM h (fun k hk=>⟨hok k hk.1,hk.2⟩)⟩
/-- More may be lent: what is nobody's. -/
theorem ZZ {ast:Nat→Prop} (h:H d e w base (fun k=>ok k∧¬ ast k) v xs i dP c) (hg:∀ k,ast k→ok k):H d e w base ok v xs i (fun k=>dP k∨ast k) c:=by
 obtain ⟨ho,f,h⟩:=h
 exact ⟨fun k hk=>hk.elim (fun h2=>(ho k h2).1) (hg k),f,aqM h (fun k hk=>⟨hk.1.1,fun h2=>h2.elim hk.2 hk.1.2⟩)⟩
/-- For one event on what element i leads to (an inner row stored into): the element's cells stay. -/
theorem zO {ad : Addr} (h : S d e W base ok (.slice (some ad) n cap) xs) (z : α) (i : Int) (h0 : 0 ≤ i) (h1 : i < n) :
  ∃ (dP : Nat → Prop) (c : List Value), c.length = d.sz ∧ d.M W base dP (xs.getD i.toNat z) c ∧ (∀ j u, c[j]? = some u → W.cell? (ad.add (i.toNat * d.sz + j)) = some u) ∧ (∀ k, dP k → ok k ∧ some k ≠ (Value.slice (some ad) n cap).ownBlock) ∧
   ∀ {w1:World} {row:Option Nat} {x':α},W.grownBy w1 row→(∀ k,row=some k→dP k)→d.M w1 base dP x' c→S d e w1 base ok (.slice (some ad) n cap) (xs.set i.toNat x'):=by
 obtain ⟨g,rfl⟩:=Q9 (qH h)
 obtain ⟨dP,c,arU,hM,o7,atr,hH⟩:=Re h z i h0 h1
 refine ⟨dP,c,arU,hM,fun j u hu=>?_,fun k hk=>⟨(atr k hk).1,fun he=>(atr k hk).2 ?_⟩,fun hg hrow hM1=>Qx (Qy hH hg hrow) hM1 (fun _ hk=>hk)⟩
 ·rw [nA, Nat.zero_add]
  exact o7 j u hu
 ·simpa [Value.ownBlock] using he
/-- Element i, its blocks (oki) first; hH: the row without it, for S_seg. -/
theorem K9 (h : S d e W base ok (.slice (some ⟨g, 0, none⟩) n cap) xs) (z : α) (i : Int) (h0 : 0 ≤ i) (h1 : i < n) :
  ∃ (dP:Nat→Prop) (c:List Value),c.length=d.sz∧d.M W base dP (xs.getD i.toNat z) c∧(∀ j u,c[j]?=some u→W.cell? ⟨g,i.toNat * d.sz+j,none⟩=some u)∧(∀ j,W.frozen? ⟨g,i.toNat * d.sz+j,none⟩=false)∧(∀ k,dP k→ok k∧k ≠ g)∧H d e W base ok (.slice (some ⟨g,0,none⟩) n cap) xs i dP c:=by
 obtain ⟨_,_,_,_,hfr⟩:=DB (qH h) z i h0 h1
 obtain ⟨dP,c,arU,hM,o7,atr,hH⟩:=Re h z i h0 h1
 exact ⟨dP,c,arU,hM,o7,hfr,atr,hH⟩
/-- The row as_ cells: what was done to the block, done to the hole. -/
theorem KJ (h : H d e W base ok (.slice (some ⟨g, 0, none⟩) n cap) xs i dP c) (h0 : 0 ≤ i) (h1 : i < n) :
  ∃ rows : List (List Value), rows.length = xs.length ∧ (raw d.sz).R e W base (fun _ => True) (.slice (some ⟨g, 0, none⟩) n cap) rows ∧ c.length = d.sz ∧ (∀ u ∈ c, u.oneCell' = true) ∧ (∀ j u, c[j]? = some u → W.cell? ⟨g, i.toNat * d.sz + j, none⟩ = some u) ∧
   ∀ w1 c',W.grownBy w1 (some g)→(raw d.sz).R e w1 base (fun _=>True) (.slice (some ⟨g,0,none⟩) n cap) (rows.set i.toNat c')→H d e w1 base ok (.slice (some ⟨g,0,none⟩) n cap) xs i dP c':=by
 obtain ⟨hoo,f,hR⟩:=h
 have hn:=(aqP hR).1
 rw [List.length_zipIdx] at hn
 have hgo:some g=(Value.slice (some ⟨g,0,none⟩) n cap).ownBlock:=by simp [Value.ownBlock]
 obtain ⟨hok0,inner,ho,hr⟩:=hR
 have hil:i.toNat < xs.length:=by omega
 have hlen:inner.length=xs.length * d.sz:=by have:=hr.1;rw [List.length_zipIdx] at this;exact this
 have MX:∀ k,some k ≠ (Value.slice (some ⟨g,0,none⟩) n cap).ownBlock→k ≠ g:=fun k hk he=>hk (by rw [he];exact hgo)
 have hci:=(hr.2 i.toNat _ (vE (List.getElem?_eq_getElem hil))).1 rfl
 rw [hci.1] at hci
 have hc:=((hr.2 i.toNat _ (vE (List.getElem?_eq_getElem hil))).1 rfl).1
 refine ⟨(List.range xs.length).map fun j=>(inner.drop (j * d.sz)).take d.sz,by rw [List.length_map,List.length_range],⟨fun _ _=>trivial,inner,?_,?_,fun j p hj=>?_⟩,hci.2.1,hci.2.2,fun j u hu=>?_,fun w1 c' hg wT=>?_⟩
 ·rw [List.length_map,List.length_range];rw [List.length_zipIdx] at ho;exact ho
 ·rw [List.length_map,List.length_range];exact hlen
 ·rw [List.getElem?_map] at hj
  obtain ⟨j',hj',rfl⟩:=Option.map_eq_some_iff.1 hj
  obtain ⟨hl,he⟩:=List.getElem?_eq_some_iff.1 hj'
  rw [List.getElem_range] at he
  subst he
  rw [List.length_range] at hl
  have hm:=(atj f d i.toNat c).jJ (hr.2 j _ (vE (List.getElem?_eq_getElem hl)))
  exact ⟨rfl,(atj f d i.toNat c).oT hm,(atj f d i.toNat c).mD hm⟩
 ·rw [← hc, List.getElem?_take] at hu
  split at hu
  ·rw [List.getElem?_drop] at hu
   have:=ho.cells (g:=g) hgo.symm _ u hu
   rwa [add_plain] at this
  ·cases hu
 ·obtain ⟨_, inner', ho', hr'⟩ := wT
  have hl':inner'.length=xs.length * d.sz:=by have:=hr'.1;rw [List.length_set,List.length_map,List.length_range] at this;exact this
  rw [List.length_set,List.length_map,List.length_range] at ho'
  refine ⟨hoo,f,hok0,inner',by rw [List.length_zipIdx];exact ho',by rw [List.length_zipIdx];exact hl',fun m p hm=>?_⟩
  rw [List.getElem?_zipIdx,Nat.zero_add] at hm
  obtain ⟨q,hq,rfl⟩:=Option.map_eq_some_iff.1 hm
  have hml:m < xs.length:=(List.getElem?_eq_some_iff.1 hq).1
  have hold:=hr.2 m (q,m) (vE hq)
  refine ⟨fun hx=>?_,fun hx=>?_⟩
  ·have hx' : m = i.toNat := hx
   subst hx'
   exact hr'.2 i.toNat c' (List.getElem?_set_self (by rw [List.length_map,List.length_range];exact hml))
  ·have hx' : m ≠ i.toNat := hx
   have EG:=(hr'.2 m ((inner.drop (m * d.sz)).take d.sz) (by
    rw [List.getElem?_set_ne (Ne.symm hx'),List.getElem?_map,List.getElem?_eq_getElem (by rw [List.length_range];exact hml),List.getElem_range]
    rfl)).1
   show d.M w1 base _ q ((inner'.drop (m * d.sz)).take d.sz)
   rw [show (inner'.drop (m * d.sz)).take d.sz=_ from EG]
   exact d.gK (fun k hk=>hk.1) (d.nr (w1:=w1) (fun k hk=>hg.block k hk.2.2.1 (fun he=>MX k hk.1.1.2 (by injection he))) (d.nk (hold.2 hx)))
/-- Cells of the hole are written. -/
theorem Z0 (h : H d e W base ok (.slice (some ⟨g, 0, none⟩) n cap) xs i dP c) (h0 : 0 ≤ i) (h1 : i < n) {seg : List Value} {j : Nat} (hj : j + seg.length ≤ d.sz) (hone : ∀ q ∈ seg, q.oneCell' = true) :
  H d e (W.setCells g (i.toNat * d.sz+j) seg) base ok (.slice (some ⟨g,0,none⟩) n cap) xs i dP (c.take j ++ seg ++ c.drop (j+seg.length))∧W.grownBy (W.setCells g (i.toNat * d.sz+j) seg) (some g):=by
 obtain ⟨rows,_,wT,arU,atG,o7,afa⟩:=KJ h h0 h1
 obtain ⟨h2, h3⟩ := GV wT i h0 h1 (c := c) (seg := seg) (j := j) (x' := c.take j ++ seg ++ c.drop (j + seg.length)) (bw := fun _ => False) arU o7 hj
  ⟨rfl,by
   show (c.take j ++ seg ++ c.drop (j+seg.length)).length=d.sz
   simp only [List.length_append,List.length_take,List.length_drop];omega,fun u hu=>by
   rcases List.mem_append.1 hu with hu|hu
   ·rcases List.mem_append.1 hu with hu | hu
    ·exact atG u (List.mem_of_mem_take hu)
    ·exact hone u hu
   ·exact atG u (List.mem_of_mem_drop hu)⟩ (fun _ hk=>hk.elim)
 exact ⟨afa _ _ h3 h2,h3⟩
/-- A run of cells of element i is written, the element is x' then: its blocks are of those it had, or of okg (nobody's so far). hH: S_elem's, of the row at 'ok and not okg'. -/
theorem abj {ast : Nat → Prop} (hH : H d e W base (fun k => ok k ∧ ¬ ast k) (.slice (some ⟨g, 0, none⟩) n cap) xs i dP c) (h0 : 0 ≤ i) (h1 : i < n) {seg : List Value} {j : Nat} (hj : j + seg.length ≤ d.sz)
  {x':α} (hM:d.M W base bw x' (c.take j ++ seg ++ c.drop (j+seg.length))) (kr:∀ k,bw k→dP k∨ast k) (hg:∀ k,ast k→ok k∧k ≠ g) :
  S d e (W.setCells g (i.toNat * d.sz+j) seg) base ok (.slice (some ⟨g,0,none⟩) n cap) (xs.set i.toNat x')∧W.grownBy (W.setCells g (i.toNat * d.sz+j) seg) (some g):=by
 have hne:∀ k,dP k∨ast k→k ≠ g:=by
  intro k hk he
  subst he
  rcases hk with hk|hk
  ·obtain ⟨_, f, hR⟩ := hH
   exact (hR.1 k (by simp [Value.ownBlock])).2 hk
  ·exact (hg k hk).2 rfl
 obtain ⟨h2,h3⟩:=Z0 (ZZ hH (fun k hk=>(hg k hk).1)) h0 h1 hj (fun q hq=>d.mD (d.jJ hM) q (List.mem_append_left _ (List.mem_append_right _ hq)))
 exact ⟨Qx h2 (KM hM (fun k hk hlt=>h3.block k hlt (fun he=>hne k (kr k hk) (by injection he)))) kr,h3⟩
end
end Kd
end Go.Proofs.bB.dI
/- Set with little white space, by a program. -/
