/- Words on rows, worlds and walks that the texts of one law use (chosen by a program out of the seat's printed words). No condition beyond each theorem's own. -/
import Derived.Test.YtoebojnhchocaaaCWWords
import Derived.Test.YtoebojnhchocaaaCWLast
namespace Go.Proofs.bI.en
open Go.RowKit
namespace Kd
/-- An element with its index: its blocks are those that f gives to it. -/
def tag {α:Type} (f:Nat→Nat) (d:Kd α):Kd (α × Nat) where
 sz:=d.sz
 E:=d.E
 K:=fun w x cs=>d.K w x.1 cs
 M:=fun w base ok x cs=>d.M w base (fun k=>ok k∧f k=x.2) x.1 cs
 nZ:=fun h=>d.nZ h
 lz:=fun h=>d.lz h
 qI:=fun hb h=>d.qI hb h
 jN:=fun h=>d.jN h
 gQ:=fun hok h=>d.gQ (fun k hk=>⟨hok k hk.1,hk.2⟩) h
 mb:=fun h=>d.gQ (fun _ hk=>⟨⟨hk.1.1,hk.2⟩,hk.1.2⟩) (d.mb h)
 kZ:=fun hm h=>d.kZ (fun k hk=>hm k hk.1) h
 qJ:=fun hb h=>d.qJ hb h
/-- Nothing but its cells: no block is said of it. -/
def bare {α:Type} (d:Kd α):Kd α where
 sz:=d.sz
 E:=d.E
 K:=d.K
 M:=fun w base _ x cs=>d.M w base (fun _=>False) x cs
 nZ:=fun h=>d.nZ h
 lz:=fun h=>d.lz h
 qI:=fun hb h=>d.qI hb h
 jN:=fun h=>d.jN h
 gQ:=fun _ h=>h
 mb:=fun h=>h
 kZ:=fun _ h=>d.kZ (fun _ hk=>hk.elim) h
 qJ:=fun hb h=>d.qJ hb h
/-- The cells themselves. -/
def raw (sz:Nat):Kd (List Value) where
 sz:=sz
 E:=[]
 K:=fun _ x cs=>cs=x∧cs.length=sz∧∀ u ∈ cs,u.oneCell'=true
 M:=fun _ _ _ x cs=>cs=x∧cs.length=sz∧∀ u ∈ cs,u.oneCell'=true
 nZ:=fun h=>h.2.1
 lz:=fun h=>h.2.2
 qI:=fun _ h=>h
 jN:=fun h=>h
 gQ:=fun _ h=>h
 mb:=fun h=>h
 kZ:=fun _ h=>h
 qJ:=fun _ h=>h
/-- A row of elements (type e) of the call's own, no two of which lead to one block. -/
def S {α:Type} (d:Kd α) (e:Nat) (w:World) (base:Nat) (ok:Nat→Prop) (v:Value) (xs:List α):Prop:=∃ f,(tag f d).R e w base ok v xs.zipIdx
section
variable {α β:Type} {d:Kd α} {d':Kd β} {e e':Nat} {w w1 W:World} {base b:Nat} {ok ok' AO RS:Nat→Prop} {u v:Value} {xs:List α} {ys:List β}
theorem tM {xs:List α} {j:Nat} {p:α} (h:xs[j]?=some p):xs.zipIdx[j]?=some (p,j):=by rw [List.getElem?_zipIdx,h,Nat.zero_add];rfl
theorem qL (h:S d e w base ok v xs):d.R e w base ok v xs:=by
 obtain ⟨f,h0,inner,ho,hr⟩:=h
 rw [List.length_zipIdx] at ho
 exact ⟨h0,inner,ho,by have:=hr.1;rw [List.length_zipIdx] at this;exact this,fun j p hj=>d.gQ (fun _ hk=>hk.1) (hr.2 j (p,j) (tM hj))⟩
/-- Where a row begins (any row of one's own begins at its block's head). -/
theorem M1 {ad:Addr} {n cap:Nat} (h:d.R e w base ok (.slice (some ad) n cap) xs):∃ g,ad=⟨g,0,none⟩:=by
 obtain ⟨_,inner,ho,hr⟩:=h
 rcases ho.2 with ⟨hv,_⟩|⟨g,cap',cur,hv,_⟩
 ·cases hv
 ·injection hv with ha _ _
  injection ha with ha
  exact ⟨g,ha⟩
theorem Vn {ad : Addr} {n cap : Nat} (h : d.R e W base ok (.slice (some ad) n cap) xs) (z : α) (i : Int) (h0 : 0 ≤ i) (h1 : i < n) :
  ∃ c,c.length=d.sz∧d.M W base (fun k=>ok k∧some k ≠ (Value.slice (some ad) n cap).ownBlock) (xs.getD i.toNat z) c∧∀ j u,c[j]?=some u→W.cell? (ad.add (i.toNat * d.sz+j))=some u:=by
 obtain ⟨g,rfl⟩:=M1 h
 obtain ⟨c,hcl,hM,pG,_⟩:=Em h z i h0 h1
 refine ⟨c,hcl,d.gQ (fun k hk=>⟨hk.1,fun he=>hk.2 (by simpa [Value.ownBlock] using he)⟩) hM,fun j u hu=>?_⟩
 rw [lS,Nat.zero_add]
 exact pG j u hu
/-- A row whose elements lead to nothing: its blocks are its own one. -/
theorem si (hE:d.E=[]) (h:d.R e w base ok v xs):d.R e w base (fun k=>some k=v.ownBlock) v xs:=by
 obtain ⟨h0,inner,ho,hr⟩:=h
 refine ⟨fun k hk=>hk.symm,inner,ho,hr.jT (fun p c hp=>d.gQ (fun k hk=>?_) (d.mb hp))⟩
 obtain ⟨_,_,_,q,hq,_⟩:=hk
 rw [hE] at hq
 cases hq
theorem Vt (d:Kd α) (e:Nat) (w:World) (base:Nat) (ok:Nat→Prop):S d e w base ok (.slice none 0 0) []:=⟨fun _=>0,zQ _ _ _ _ _⟩
theorem iK (h:S d e w base ok v xs) (hok:∀ k,ok k→ok' k):S d e w base ok' v xs:=by
 obtain ⟨f,h⟩:=h
 exact ⟨f,bG h hok⟩
theorem M6 (h:S d e w base ok v xs):S d e w base (fun k=>ok k∧base≤k∧k < w.heap.size∧∃ q,q ∈ e :: d.E∧∃ cells,w.heap[k]?=some (.cells cells q (0,0))) v xs:=by
 obtain ⟨f,h⟩:=h
 exact ⟨f,qK h⟩
theorem Vs (h:S d e w base ok v xs) (hm:∀ k,ok k→w1.heap[k]?=w.heap[k]?):S d e w1 base ok v xs:=by
 obtain ⟨f,h⟩:=h
 exact ⟨f,zP h hm⟩
theorem ak0 {base':Nat} (h:S d e w base ok v xs) (hb:base'≤base):S d e w base' ok v xs:=by
 obtain ⟨f,h⟩:=h
 exact ⟨f,dL h hb⟩
theorem M9 (h:S d e w base ok v xs) (hm:∀ k,ok k→k < w.heap.size→w1.heap[k]?=w.heap[k]?):S d e w1 base ok v xs :=
 iK (Vs (M6 h) (fun k hk=>hm k hk.1 hk.2.2.1)) (fun _ hk=>hk.1)
theorem akP (h:S d e w base ok v xs) (hb:Below w.heap.size w w1):S d e w1 base ok v xs:=M9 h (fun k _ hk=>hb.block k hk)
theorem gI (h:S d e w base ok v xs) (o:Obj):S d e (w.alloc o) base ok v xs:=akP h (dA (Below.refl _ _) o)
theorem eT (h:S d e w base ok v xs):S d e w.drew base ok v xs:=akP h (wE (Below.refl _ _))
theorem gJ (h:S d e w base ok v xs) (m:Nat):S d e (w.drewN m) base ok v xs:=akP h (akz (Below.refl _ _) m)
theorem tW (h:S d e w base ok v xs) {p:Addr} (hok:∀ k,ok k→k ≠ p.block) (u:Value):S d e (w.setCell p u) base ok v xs:=M9 h (fun k ho _=>Below.heap_setCell w p u k (hok k ho))
theorem zV (h:S d e w base ok v xs) {g t:Nat} {cells:Array Value} (hb:w.heap[g]?=some (.cells cells t (0,0))) (ht:∀ q,q ∈ e :: d.E→q ≠ t):S d e w base (fun k=>ok k∧k ≠ g) v xs:=by
 obtain ⟨f,h⟩:=h
 exact ⟨f,ji h hb ht⟩
theorem akQ (h:S d e w base ok v xs):∀ k,v.ownBlock=some k→∃ cells,w.heap[k]?=some (.cells cells e (0,0)):=M4 (qL h)
theorem uU (h:S d e w base ok v xs):∀ k,v.ownBlock=some k→k < w.heap.size:=cE (qL h)
theorem xW (h:S d e w base ok v xs):∀ k,v.ownBlock=some k→base≤k:=bW (qL h)
theorem g_ (h:S d e W base ok u xs) (hbase:∀ k,v.ownBlock=some k→W.heap.size≤k) (hb:Below W.heap.size W w1):S d e w1 base (fun k=>ok k∧some k ≠ v.ownBlock) u xs:=by
 obtain ⟨f,h⟩:=h
 exact ⟨f,dV h hbase hb⟩
theorem lO (h:S d e w1 W.heap.size ok v xs) (hlt:∀ k,u.ownBlock=some k→k < W.heap.size):S d e w1 W.heap.size (fun k=>ok k∧some k ≠ u.ownBlock) v xs:=by
 obtain ⟨f,h⟩:=h
 exact ⟨f,dW h hlt⟩
/-- Behind an append to v (it left v1): what is held apart from v is held apart from v1. -/
theorem sj {v1:Value} (h:S d e W base (fun k=>ok k∧some k ≠ v.ownBlock) u xs) (hg:W.grownBy w1 v.ownBlock) (cy:v1.ownBlock=v.ownBlock∨∃ b,v1.ownBlock=some b∧W.heap.size≤b):S d e w1 base (fun k=>ok k∧some k ≠ v1.ownBlock) u xs:=by
 obtain ⟨f,h⟩:=h
 exact ⟨f,o7 h hg cy⟩
/-- Elements that lead to nothing. -/
theorem M5 (h:(bare d).R e w base ok v xs):S d e w base ok v xs:=by
 obtain ⟨h0,inner,ho,hr⟩:=h
 refine ⟨fun _=>0,h0,inner,by rw [List.length_zipIdx];exact ho,by rw [List.length_zipIdx];exact hr.1,fun j p hj=>?_⟩
 rw [List.getElem?_zipIdx,Nat.zero_add] at hj
 obtain ⟨x,hx,rfl⟩:=Option.map_eq_some_iff.1 hj
 exact d.gQ (fun _ hk=>hk.elim) (hr.2 j x hx)
/-- The owner may be told anew where nothing is said. -/
theorem Vp {f f':Nat→Nat} {zs:List (α × Nat)} (h:(tag f d).R e w base ok v zs) (hf:∀ k,ok k→k < w.heap.size→f' k=f k):(tag f' d).R e w base ok v zs:=by
 obtain ⟨h0,inner,ho,hr⟩:=qK h
 exact ⟨fun k hk=>(h0 k hk).1,inner,ho,hr.1,fun j p hj=>d.gQ (fun k hk=>⟨⟨hk.1.1.1,hk.1.2⟩,(hf k hk.1.1.1 hk.1.1.2.2.1).trans hk.2⟩) (hr.2 j p hj)⟩
end
section
variable {α β:Type} {d:Kd α} {d':Kd β} {e e' g:Nat} {w w1 W:World} {base b:Nat} {ok ok' AO RS:Nat→Prop} {u v:Value} {xs:List α} {ys:List β}
theorem zU (h:S d e w base ok v xs) {t:Nat} {cells:Array Value} (hb:w.heap[g]?=some (.cells cells t (0,0))) (ht:e ≠ t):some g ≠ v.ownBlock:=iD (qL h) hb ht
theorem M7 (h:S d e w base ok v xs) (hp:0 < xs.length):∃ g cap,v=.slice (some ⟨g,0,none⟩) xs.length cap∧base≤g∧g < w.heap.size∧∃ cells,w.heap[g]?=some (.cells cells e (0,0)):=akT (qL h) hp
theorem oK (h:S d e w base ok v xs):∃ A c,v=.slice A xs.length c:=eK (qL h)
theorem bY {A:Option Addr} {n c:Nat} (h:S d e w base ok (.slice A n c) xs):n=xs.length∧n≤c∧d.C w A xs.length xs:=bu (qL h)
/-- Only read: its cells and what it leads to, as_ the row has them. -/
theorem mj {ad : Addr} {n cap : Nat} (h : S d e W base ok (.slice (some ad) n cap) xs) (z : α) (i : Int) (h0 : 0 ≤ i) (h1 : i < n) :
  ∃ c,c.length=d.sz∧d.M W base (fun k=>ok k∧some k ≠ (Value.slice (some ad) n cap).ownBlock) (xs.getD i.toNat z) c∧∀ j u,c[j]?=some u→W.cell? (ad.add (i.toNat * d.sz+j))=some u:=Vn (qL h) z i h0 h1
theorem aeZ (xs:List α) (p:α):(xs ++ [p]).zipIdx=xs.zipIdx ++ [(p,xs.length)]:=by rw [List.zipIdx_append];simp
end
section
open Classical in
/-- The next element's blocks are okp: none is one of v's (okv). -/
theorem Vw {α:Type} {d:Kd α} {e base:Nat} {AO:Nat→Prop} {w:World} {v:Value} {xs:List α} (h:S d e w base AO v xs) (m:Nat) (cA:Nat→Prop) (hap:∀ k,cA k→¬ AO k):∃ f,(∀ k,cA k→f k=m)∧(tag f d).R e w base AO v xs.zipIdx:=by
 obtain ⟨f,h⟩:=h
 exact ⟨fun k=>if cA k then m else f k,fun k hk=>if_pos hk,Vp h (fun k hk _=>if_neg (fun h2=>hap k h2 hk))⟩
variable {P:Program} {ops:Array Oper} {rest:List Oper} {o:Oper} {a:Act} {Q:Exit→Act→World→Prop} {Kc:Act→World→Prop} {α:Type}
/-- append(v, x), behind 'at_builtin': x's blocks are okp, none of them v's. -/
theorem Bm (d : Kd α) {w0 W : World} (base : Nat) (hgd : o.guard = none) (s x : Operand) (t e : TypeId) (z : Value) (bytes : Nat)
  (ho:o.op=.call { callee:=.builtin .append,args:=#[s,x],argTypes:=#[t,t] })
  (ht:P.underlying t=some (.slice e)) (hinfo:(P.info? e).map (fun i=>(i.zero,i.size,i.bytes))=some (some z,d.sz,bytes)) (hz:z.cells.size=d.sz) (hs0:0 < d.sz) (hb0:0 < bytes)
  (v:Value) (xs:List α) (p:α) (cs:List Value) (ok cA:Nat→Prop) (hs:a.eval s=v) (hx:a.eval x=.slice (some ⟨W.heap.size,0,none⟩) 1 1) (hp:d.M W base cA p cs) (qm:∀ k,cA k→ok k∧some k ≠ v.ownBlock) (ng:∀ k,W.heap.size≤k→ok k)
  (HO:S d e W base (fun k=>ok k∧¬ cA k) v xs) (HB:Below base w0 W) (hbase:base≤W.heap.size) (hl:(xs.length+1) * bytes≤140737488355328)
  (h:∀ v1 w1,S d e w1 base ok v1 (xs ++ [p])→Below base w0 w1→W.grownBy w1 v.ownBlock→(v1.ownBlock=v.ownBlock∨∃ b,v1.ownBlock=some b∧W.heap.size≤b)→wpList P ops Q rest (a.put o.dst v1) w1) :
  wpList P ops Q (o :: rest) a (W.alloc (.cells cs.toArray e)):=by
 obtain ⟨f,hf,hR⟩:=Vw HO xs.length cA (fun _ hk h2=>h2.2 hk)
 refine tV (tag f d) base hgd s x t e z bytes ho ht hinfo hz hs0 hb0 v xs.zipIdx (p,xs.length) cs ok cA hs hx (d.gQ (fun k hk=>⟨hk,hf k hk⟩) hp) qm ng (bG hR (fun _ hk=>hk.1)) HB hbase (by rw [List.length_zipIdx];exact hl) ?_
 intro v1 w1 hr
 rw [← aeZ] at hr
 exact h v1 w1 ⟨f,hr⟩
/-- A literal whose elements lead to nothing. -/
theorem Bn (d : Kd α) {w0 W : World} (base e : Nat) (hgd : o.guard = none) {N : Tmp} (_hd : o.dst = some N) {xs : List α} {inner : List Value} {ok cA : Nat → Prop}
  (hrun:(execOp a.eval o).run P W=.ok (.value (.slice (some ⟨W.heap.size,0,none⟩) xs.length xs.length)) (W.alloc (.cells inner.toArray e)))
  (yV:bS (d.M W base (fun _=>False)) d.sz xs inner) (_hok:∀ k,cA k→ok k) (ng:ok W.heap.size) (HB:Below base w0 W) (hbase:base≤W.heap.size) (hm:xs.length≤9223372036854775807)
  (h:∀ v1 w1,S d e w1 base ok v1 xs→Below base w0 w1→W.grownBy w1 none→(∃ b,v1.ownBlock=some b∧W.heap.size≤b)→wpList P ops Q rest (a.put o.dst v1) w1):wpList P ops Q (o :: rest) a W :=
 o8 (bare d) base e hgd _hd (ok:=ok) (cA:=ok) hrun yV (fun _ hk=>hk) ng HB hbase hm (fun v1 w1 hr=>h v1 w1 (M5 hr))
theorem Vq (d : Kd α) {w0 W : World} (base e : Nat) (hgd : o.guard = none) {N : Tmp} (hd : o.dst = some N) (t : TypeId) (x y : Operand) (ho : o.op = .makeSlice t x y) (n : Int) (hx : a.eval x = .int .i64 n) (hy : a.eval y = .int .i64 n)
  (ht:P.underlying t=some (.slice e)) (z:Value) (bytes:Nat) (hinfo:(P.info? e).map (fun i=>(i.zero,i.size,i.bytes))=some (some z,d.sz,bytes)) (hz:z.cells.size=d.sz) (hs0:0 < d.sz) (hb0:0 < bytes)
  (z0:α) {ok cA:Nat→Prop} (hzero:d.M W base (fun _=>False) z0 z.cells.toList) (_hok:∀ k,cA k→ok k) (ng:ok W.heap.size) (h0:0≤n) (hl:n.toNat * bytes≤281474976710656) (HB:Below base w0 W) (hbase:base≤W.heap.size)
  (h:∀ v1 w1,S d e w1 base ok v1 (List.replicate n.toNat z0)→Below base w0 w1→W.grownBy w1 none→(∃ b,v1.ownBlock=some b∧W.heap.size≤b)→wpList P ops Q rest (a.put o.dst v1) w1):wpList P ops Q (o :: rest) a W :=
 xU (bare d) base e hgd hd t x y ho n hx hy ht z bytes hinfo hz hs0 hb0 z0 (ok:=ok) (cA:=ok) hzero (fun _ hk=>hk) ng h0 hl HB hbase (fun v1 w1 hr=>h v1 w1 (M5 hr))
end
/-- Element i is these cells; the others are d's. -/
def EV {α:Type} (f:Nat→Nat) (d:Kd α) (i:Nat) (c:List Value):Kd (α × Nat) where
 sz:=d.sz
 E:=d.E
 K:=fun w x cs=>(x.2=i→cs=c∧cs.length=d.sz∧∀ u ∈ cs,u.oneCell'=true)∧(x.2 ≠ i→d.K w x.1 cs)
 M:=fun w base ok x cs=>(x.2=i→cs=c∧cs.length=d.sz∧∀ u ∈ cs,u.oneCell'=true)∧(x.2 ≠ i→d.M w base (fun k=>ok k∧f k=x.2) x.1 cs)
 nZ:=fun {w x cs} h=>by
  by_cases hx:x.2=i
  ·exact (h.1 hx).2.1
  ·exact d.nZ (h.2 hx)
 lz:=fun {w x cs} h=>by
  by_cases hx:x.2=i
  ·exact (h.1 hx).2.2
  ·exact d.lz (h.2 hx)
 qI:=fun hb h=>⟨h.1,fun hx=>d.qI hb (h.2 hx)⟩
 jN:=fun h=>⟨h.1,fun hx=>d.jN (h.2 hx)⟩
 gQ:=fun hok h=>⟨h.1,fun hx=>d.gQ (fun k hk=>⟨hok k hk.1,hk.2⟩) (h.2 hx)⟩
 mb:=fun h=>⟨h.1,fun hx=>d.gQ (fun _ hk=>⟨⟨hk.1.1,hk.2⟩,hk.1.2⟩) (d.mb (h.2 hx))⟩
 kZ:=fun hm h=>⟨h.1,fun hx=>d.kZ (fun k hk=>hm k hk.1) (h.2 hx)⟩
 qJ:=fun hb h=>⟨h.1,fun hx=>d.qJ hb (h.2 hx)⟩
def H {α:Type} (d:Kd α) (e:Nat) (w:World) (base:Nat) (ok:Nat→Prop) (v:Value) (xs:List α) (i:Int) (gC:Nat→Prop) (c:List Value):Prop :=
 (∀ k,gC k→ok k)∧∃ f,(EV f d i.toNat c).R e w base (fun k=>ok k∧¬ gC k) v xs.zipIdx
section
variable {α β:Type} {d:Kd α} {e e' g n cap:Nat} {w w1 W:World} {base:Nat} {ok ok' gC cA:Nat→Prop} {u v:Value} {xs:List α} {i:Int} {c:List Value}
/-- Element i, lent: its cells, its blocks, and the row without it. -/
theorem M8 (h : S d e W base ok (.slice (some ⟨g, 0, none⟩) n cap) xs) (z : α) (i : Int) (h0 : 0 ≤ i) (h1 : i < n) :
  ∃ (gC:Nat→Prop) (c:List Value),c.length=d.sz∧d.M W base gC (xs.getD i.toNat z) c∧(∀ j u,c[j]?=some u→W.cell? ⟨g,i.toNat * d.sz+j,none⟩=some u)∧(∀ k,gC k→ok k∧k ≠ g)∧H d e W base ok (.slice (some ⟨g,0,none⟩) n cap) xs i gC c:=by
 obtain ⟨f,hR⟩:=h
 have hn:=(bu hR).1
 rw [List.length_zipIdx] at hn
 have hgo:some g=(Value.slice (some ⟨g,0,none⟩) n cap).ownBlock:=by simp [Value.ownBlock]
 obtain ⟨hok0,inner,ho,hr⟩:=hR
 have hil:i.toNat < xs.length:=by omega
 have hlen:inner.length=xs.length * d.sz:=by have:=hr.1;rw [List.length_zipIdx] at this;exact this
 have Fi:i.toNat * d.sz+d.sz≤inner.length:=by rw [hlen,← Nat.succ_mul];exact Nat.mul_le_mul_right _ hil
 have hM:=hr.2 i.toNat _ (tM (List.getElem?_eq_getElem hil))
 have JO:∀ k,some k ≠ (Value.slice (some ⟨g,0,none⟩) n cap).ownBlock→k ≠ g:=fun k hk he=>hk (by rw [he];exact hgo)
 refine ⟨fun k=>(ok k∧k ≠ g)∧f k=i.toNat,(inner.drop (i.toNat * d.sz)).take d.sz,by rw [List.length_take,List.length_drop];omega,?_,fun j u hu=>?_,fun k hk=>hk.1,fun k hk=>hk.1.1,f,fun k hk=>⟨hok0 k hk,fun h2=>h2.1.2 ?_⟩,inner,ho,hr.1,fun m p hm=>?_⟩
 ·rw [List.getD_eq_getElem?_getD, List.getElem?_eq_getElem hil]
  exact d.gQ (fun k hk=>⟨⟨hk.1.1,JO k hk.1.2⟩,hk.2⟩) hM
 ·rw [List.getElem?_take] at hu
  split at hu
  ·rw [List.getElem?_drop] at hu
   have:=ho.cells (g:=g) hgo.symm _ u hu
   rwa [add_plain] at this
  ·cases hu
 ·rw [← hgo] at hk;injection hk with hk;exact hk.symm
 ·have hold := hr.2 m p hm
  have hp2:p.2=m:=by
   rw [List.getElem?_zipIdx,Nat.zero_add] at hm
   obtain ⟨q,_,rfl⟩:=Option.map_eq_some_iff.1 hm
   rfl
  refine ⟨fun hx=>?_,fun hx=>d.gQ (fun k hk=>⟨⟨⟨hk.1.1,fun h2=>hx ?_⟩,hk.1.2⟩,hk.2⟩) hold⟩
  ·have qX : m = i.toNat := by omega
   subst qX
   exact ⟨rfl,d.nZ (d.jN hM),d.lz (d.jN hM)⟩
  ·rw [← hk.2];exact h2.2
open Classical in
/-- The element put back: its blocks are among those that were lent. -/
theorem MQ (h:H d e w base ok v xs i gC c) {x':α} (hM:d.M w base cA x' c) (hok:∀ k,cA k→gC k):S d e w base ok v (xs.set i.toNat x'):=by
 obtain ⟨ho,f,h0,inner,hown,hr⟩:=h
 refine ⟨fun k=>if gC k then i.toNat else f k,fun k hk=>(h0 k hk).1,inner,by rw [List.length_zipIdx,List.length_set];rw [List.length_zipIdx] at hown;exact hown,by have:=hr.1;rw [List.length_zipIdx] at this;rw [List.length_zipIdx,List.length_set];exact this,fun m p hm=>?_⟩
 rw [List.getElem?_zipIdx,Nat.zero_add] at hm
 obtain ⟨q,hq,rfl⟩:=Option.map_eq_some_iff.1 hm
 have hml:m < xs.length:=by
  have:=(List.getElem?_eq_some_iff.1 hq).1
  rwa [List.length_set] at this
 by_cases qX:m=i.toNat
 ·subst qX
  rw [List.getElem?_set_self hml] at hq
  injection hq with hq
  subst hq
  have hc:=((hr.2 i.toNat _ (tM (List.getElem?_eq_getElem hml))).1 rfl).1
  show d.M w base _ x' ((inner.drop (i.toNat * d.sz)).take d.sz)
  rw [show (inner.drop (i.toNat * d.sz)).take d.sz=c from hc]
  exact d.gQ (fun k hk=>⟨⟨ho k (hok k hk),fun he=>(h0 k he.symm).2 (hok k hk)⟩,if_pos (hok k hk)⟩) hM
 ·rw [List.getElem?_set_ne (Ne.symm qX)] at hq
  exact d.gQ (fun k hk=>⟨⟨hk.1.1.1,hk.1.2⟩,(if_neg hk.1.1.2).trans hk.2⟩) ((hr.2 m (q,m) (tM hq)).2 qX)
theorem UI (h:H d e w base ok v xs i gC c) (hm:∀ k,ok k→¬ gC k→k < w.heap.size→w1.heap[k]?=w.heap[k]?):H d e w1 base ok v xs i gC c:=by
 obtain ⟨ho,f,h⟩:=h
 exact ⟨ho,f,Bl h (fun k hk hlt=>hm k hk.1 hk.2 hlt)⟩
/-- A row that was lent has been written (appended to, stored into). -/
theorem UE (h:H d e w base ok v xs i gC c) {row:Option Nat} (hg:w.grownBy w1 row) (hrow:∀ k,row=some k→gC k):H d e w1 base ok v xs i gC c :=
 UI h (fun k _ hn hlt=>hg.block k hlt (fun he=>hn (hrow k he.symm)))
/-- More may be lent: what is nobody's. -/
theorem UF {xu:Nat→Prop} (h:H d e w base (fun k=>ok k∧¬ xu k) v xs i gC c) (hg:∀ k,xu k→ok k):H d e w base ok v xs i (fun k=>gC k∨xu k) c:=by
 obtain ⟨ho,f,h⟩:=h
 exact ⟨fun k hk=>hk.elim (fun h2=>(ho k h2).1) (hg k),f,bG h (fun k hk=>⟨hk.1.1,fun h2=>h2.elim hk.2 hk.1.2⟩)⟩
/-- For one event on what element i leads to (an inner row stored into): the element's cells stay. -/
theorem zT {ad : Addr} (h : S d e W base ok (.slice (some ad) n cap) xs) (z : α) (i : Int) (h0 : 0 ≤ i) (h1 : i < n) :
  ∃ (gC : Nat → Prop) (c : List Value), c.length = d.sz ∧ d.M W base gC (xs.getD i.toNat z) c ∧ (∀ j u, c[j]? = some u → W.cell? (ad.add (i.toNat * d.sz + j)) = some u) ∧ (∀ k, gC k → ok k ∧ some k ≠ (Value.slice (some ad) n cap).ownBlock) ∧
   ∀ {w1:World} {row:Option Nat} {x':α},W.grownBy w1 row→(∀ k,row=some k→gC k)→d.M w1 base gC x' c→S d e w1 base ok (.slice (some ad) n cap) (xs.set i.toNat x'):=by
 obtain ⟨g,rfl⟩:=M1 (qL h)
 obtain ⟨gC,c,hcl,hM,pG,Fg,hH⟩:=M8 h z i h0 h1
 refine ⟨gC,c,hcl,hM,fun j u hu=>?_,fun k hk=>⟨(Fg k hk).1,fun he=>(Fg k hk).2 ?_⟩,fun hg hrow Zd=>MQ (UE hH hg hrow) Zd (fun _ hk=>hk)⟩
 ·rw [lS, Nat.zero_add]
  exact pG j u hu
 ·simpa [Value.ownBlock] using he
/-- Element i, its blocks (oki) first; hH: the row without it, for S_seg. -/
theorem HQ (h : S d e W base ok (.slice (some ⟨g, 0, none⟩) n cap) xs) (z : α) (i : Int) (h0 : 0 ≤ i) (h1 : i < n) :
  ∃ (gC:Nat→Prop) (c:List Value),c.length=d.sz∧d.M W base gC (xs.getD i.toNat z) c∧(∀ j u,c[j]?=some u→W.cell? ⟨g,i.toNat * d.sz+j,none⟩=some u)∧(∀ j,W.frozen? ⟨g,i.toNat * d.sz+j,none⟩=false)∧(∀ k,gC k→ok k∧k ≠ g)∧H d e W base ok (.slice (some ⟨g,0,none⟩) n cap) xs i gC c:=by
 obtain ⟨_,_,_,_,hfr⟩:=Em (qL h) z i h0 h1
 obtain ⟨gC,c,hcl,hM,pG,Fg,hH⟩:=M8 h z i h0 h1
 exact ⟨gC,c,hcl,hM,pG,hfr,Fg,hH⟩
/-- The row as_ cells: what was done to the block, done to the hole. -/
theorem UG (h : H d e W base ok (.slice (some ⟨g, 0, none⟩) n cap) xs i gC c) (h0 : 0 ≤ i) (h1 : i < n) :
  ∃ rows : List (List Value), rows.length = xs.length ∧ (raw d.sz).R e W base (fun _ => True) (.slice (some ⟨g, 0, none⟩) n cap) rows ∧ c.length = d.sz ∧ (∀ u ∈ c, u.oneCell' = true) ∧ (∀ j u, c[j]? = some u → W.cell? ⟨g, i.toNat * d.sz + j, none⟩ = some u) ∧
   ∀ w1 c',W.grownBy w1 (some g)→(raw d.sz).R e w1 base (fun _=>True) (.slice (some ⟨g,0,none⟩) n cap) (rows.set i.toNat c')→H d e w1 base ok (.slice (some ⟨g,0,none⟩) n cap) xs i gC c':=by
 obtain ⟨hoo,f,hR⟩:=h
 have hn:=(bu hR).1
 rw [List.length_zipIdx] at hn
 have hgo:some g=(Value.slice (some ⟨g,0,none⟩) n cap).ownBlock:=by simp [Value.ownBlock]
 obtain ⟨hok0,inner,ho,hr⟩:=hR
 have hil:i.toNat < xs.length:=by omega
 have hlen:inner.length=xs.length * d.sz:=by have:=hr.1;rw [List.length_zipIdx] at this;exact this
 have JO:∀ k,some k ≠ (Value.slice (some ⟨g,0,none⟩) n cap).ownBlock→k ≠ g:=fun k hk he=>hk (by rw [he];exact hgo)
 have hci:=(hr.2 i.toNat _ (tM (List.getElem?_eq_getElem hil))).1 rfl
 rw [hci.1] at hci
 have hc:=((hr.2 i.toNat _ (tM (List.getElem?_eq_getElem hil))).1 rfl).1
 refine ⟨(List.range xs.length).map fun j=>(inner.drop (j * d.sz)).take d.sz,by rw [List.length_map,List.length_range],⟨fun _ _=>trivial,inner,?_,?_,fun j p hj=>?_⟩,hci.2.1,hci.2.2,fun j u hu=>?_,fun w1 c' hg yU=>?_⟩
 ·rw [List.length_map,List.length_range];rw [List.length_zipIdx] at ho;exact ho
 ·rw [List.length_map,List.length_range];exact hlen
 ·rw [List.getElem?_map] at hj
  obtain ⟨j',hj',rfl⟩:=Option.map_eq_some_iff.1 hj
  obtain ⟨hl,he⟩:=List.getElem?_eq_some_iff.1 hj'
  rw [List.getElem_range] at he
  subst he
  rw [List.length_range] at hl
  have hm:=(EV f d i.toNat c).jN (hr.2 j _ (tM (List.getElem?_eq_getElem hl)))
  exact ⟨rfl,(EV f d i.toNat c).nZ hm,(EV f d i.toNat c).lz hm⟩
 ·rw [← hc, List.getElem?_take] at hu
  split at hu
  ·rw [List.getElem?_drop] at hu
   have:=ho.cells (g:=g) hgo.symm _ u hu
   rwa [add_plain] at this
  ·cases hu
 ·obtain ⟨_, inner', ho', hr'⟩ := yU
  have hl':inner'.length=xs.length * d.sz:=by have:=hr'.1;rw [List.length_set,List.length_map,List.length_range] at this;exact this
  rw [List.length_set,List.length_map,List.length_range] at ho'
  refine ⟨hoo,f,hok0,inner',by rw [List.length_zipIdx];exact ho',by rw [List.length_zipIdx];exact hl',fun m p hm=>?_⟩
  rw [List.getElem?_zipIdx,Nat.zero_add] at hm
  obtain ⟨q,hq,rfl⟩:=Option.map_eq_some_iff.1 hm
  have hml:m < xs.length:=(List.getElem?_eq_some_iff.1 hq).1
  have hold:=hr.2 m (q,m) (tM hq)
  refine ⟨fun hx=>?_,fun hx=>?_⟩
  ·have hx' : m = i.toNat := hx
   subst hx'
   exact hr'.2 i.toNat c' (List.getElem?_set_self (by rw [List.length_map,List.length_range];exact hml))
  ·have hx' : m ≠ i.toNat := hx
   have rM:=(hr'.2 m ((inner.drop (m * d.sz)).take d.sz) (by
    rw [List.getElem?_set_ne (Ne.symm hx'),List.getElem?_map,List.getElem?_eq_getElem (by rw [List.length_range];exact hml),List.getElem_range]
    rfl)).1
   show d.M w1 base _ q ((inner'.drop (m * d.sz)).take d.sz)
   rw [show (inner'.drop (m * d.sz)).take d.sz=_ from rM]
   exact d.gQ (fun k hk=>hk.1) (d.kZ (w1:=w1) (fun k hk=>hg.block k hk.2.2.1 (fun he=>JO k hk.1.1.2 (by injection he))) (d.mb (hold.2 hx)))
/-- Cells of the hole are written. -/
theorem UH (h : H d e W base ok (.slice (some ⟨g, 0, none⟩) n cap) xs i gC c) (h0 : 0 ≤ i) (h1 : i < n) {seg : List Value} {j : Nat} (hj : j + seg.length ≤ d.sz) (hone : ∀ q ∈ seg, q.oneCell' = true) :
  H d e (W.setCells g (i.toNat * d.sz+j) seg) base ok (.slice (some ⟨g,0,none⟩) n cap) xs i gC (c.take j ++ seg ++ c.drop (j+seg.length))∧W.grownBy (W.setCells g (i.toNat * d.sz+j) seg) (some g):=by
 obtain ⟨rows,_,yU,hcl,E4,pG,ZG⟩:=UG h h0 h1
 obtain ⟨h2, h3⟩ := Ep yU i h0 h1 (c := c) (seg := seg) (j := j) (x' := c.take j ++ seg ++ c.drop (j + seg.length)) (cA := fun _ => False) hcl pG hj
  ⟨rfl,by
   show (c.take j ++ seg ++ c.drop (j+seg.length)).length=d.sz
   simp only [List.length_append,List.length_take,List.length_drop];omega,fun u hu=>by
   rcases List.mem_append.1 hu with hu|hu
   ·rcases List.mem_append.1 hu with hu | hu
    ·exact E4 u (List.mem_of_mem_take hu)
    ·exact hone u hu
   ·exact E4 u (List.mem_of_mem_drop hu)⟩ (fun _ hk=>hk.elim)
 exact ⟨ZG _ _ h3 h2,h3⟩
/-- A run of cells of element i is written, the element is x' then: its blocks are of those it had, or of okg (nobody's so far). hH: S_elem's, of the row at 'ok and not okg'. -/
theorem Vu {xu : Nat → Prop} (hH : H d e W base (fun k => ok k ∧ ¬ xu k) (.slice (some ⟨g, 0, none⟩) n cap) xs i gC c) (h0 : 0 ≤ i) (h1 : i < n) {seg : List Value} {j : Nat} (hj : j + seg.length ≤ d.sz)
  {x':α} (hM:d.M W base cA x' (c.take j ++ seg ++ c.drop (j+seg.length))) (qm:∀ k,cA k→gC k∨xu k) (hg:∀ k,xu k→ok k∧k ≠ g) :
  S d e (W.setCells g (i.toNat * d.sz+j) seg) base ok (.slice (some ⟨g,0,none⟩) n cap) (xs.set i.toNat x')∧W.grownBy (W.setCells g (i.toNat * d.sz+j) seg) (some g):=by
 have hne:∀ k,gC k∨xu k→k ≠ g:=by
  intro k hk he
  subst he
  rcases hk with hk|hk
  ·obtain ⟨_, f, hR⟩ := hH
   exact (hR.1 k (by simp [Value.ownBlock])).2 hk
  ·exact (hg k hk).2 rfl
 obtain ⟨h2,h3⟩:=UH (UF hH (fun k hk=>(hg k hk).1)) h0 h1 hj (fun q hq=>d.lz (d.jN hM) q (List.mem_append_left _ (List.mem_append_right _ hq)))
 exact ⟨MQ h2 (amA hM (fun k hk hlt=>h3.block k hlt (fun he=>hne k (qm k hk) (by injection he)))) qm,h3⟩
end
end Kd
end Go.Proofs.bI.en
/- Set with little white space, by a program. -/
