/- Words on rows, worlds and walks that the texts of one law use (chosen by a program out of the seat's printed words). No condition beyond each theorem's own. -/
import Derived.Test.YtoebojnhchocaaaEWWords
import Derived.Test.YtoebojnhchocaaaEWLast
namespace Go.Proofs.bY.apf
open Go.RowKit
namespace Kd
/-- An element with its index: its blocks are those that f gives to it. -/
def tag {α:Type} (f:Nat→Nat) (d:Kd α):Kd (α × Nat) where
 sz:=d.sz
 E:=d.E
 K:=fun w x cs=>d.K w x.1 cs
 M:=fun w base ok x cs=>d.M w base (fun k=>ok k∧f k=x.2) x.1 cs
 apM:=fun h=>d.apM h
 pE:=fun h=>d.pE h
 ua:=fun hb h=>d.ua hb h
 mZ:=fun h=>d.mZ h
 jJ:=fun hok h=>d.jJ (fun k hk=>⟨hok k hk.1,hk.2⟩) h
 pF:=fun h=>d.jJ (fun _ hk=>⟨⟨hk.1.1,hk.2⟩,hk.1.2⟩) (d.pF h)
 pG:=fun hm h=>d.pG (fun k hk=>hm k hk.1) h
 ud:=fun hb h=>d.ud hb h
/-- Nothing but its cells: no block is said of it. -/
def bare {α:Type} (d:Kd α):Kd α where
 sz:=d.sz
 E:=d.E
 K:=d.K
 M:=fun w base _ x cs=>d.M w base (fun _=>False) x cs
 apM:=fun h=>d.apM h
 pE:=fun h=>d.pE h
 ua:=fun hb h=>d.ua hb h
 mZ:=fun h=>d.mZ h
 jJ:=fun _ h=>h
 pF:=fun h=>h
 pG:=fun _ h=>d.pG (fun _ hk=>hk.elim) h
 ud:=fun hb h=>d.ud hb h
/-- The cells themselves. -/
def raw (sz:Nat):Kd (List Value) where
 sz:=sz
 E:=[]
 K:=fun _ x cs=>cs=x∧cs.length=sz∧∀ u ∈ cs,u.oneCell'=true
 M:=fun _ _ _ x cs=>cs=x∧cs.length=sz∧∀ u ∈ cs,u.oneCell'=true
 apM:=fun h=>h.2.1
 pE:=fun h=>h.2.2
 ua:=fun _ h=>h
 mZ:=fun h=>h
 jJ:=fun _ h=>h
 pF:=fun h=>h
 pG:=fun _ h=>h
 ud:=fun _ h=>h
/-- A row of elements (type e) of the call's own, no two of which lead to one block. -/
def S {α:Type} (d:Kd α) (e:Nat) (w:World) (base:Nat) (ok:Nat→Prop) (v:Value) (xs:List α):Prop:=∃ f,(tag f d).R e w base ok v xs.zipIdx
section
variable {α β:Type} {d:Kd α} {d':Kd β} {e e':Nat} {w w1 W:World} {base b:Nat} {ok ok' CC Tt:Nat→Prop} {u v:Value} {xs:List α} {ys:List β}
theorem zc {xs:List α} {j:Nat} {p:α} (h:xs[j]?=some p):xs.zipIdx[j]?=some (p,j):=by rw [List.getElem?_zipIdx,h,Nat.zero_add];rfl
theorem qF (h:S d e w base ok v xs):d.R e w base ok v xs:=by
 obtain ⟨f,h0,inner,ho,hr⟩:=h
 rw [List.length_zipIdx] at ho
 exact ⟨h0,inner,ho,by have:=hr.1;rw [List.length_zipIdx] at this;exact this,fun j p hj=>d.jJ (fun _ hk=>hk.1) (hr.2 j (p,j) (zc hj))⟩
/-- Where a row begins (any row of one's own begins at its block's head). -/
theorem OW {ad:Addr} {n cap:Nat} (h:d.R e w base ok (.slice (some ad) n cap) xs):∃ g,ad=⟨g,0,none⟩:=by
 obtain ⟨_,inner,ho,hr⟩:=h
 rcases ho.2 with ⟨hv,_⟩|⟨g,cap',cur,hv,_⟩
 ·cases hv
 ·injection hv with ha _ _
  injection ha with ha
  exact ⟨g,ha⟩
theorem WM {ad : Addr} {n cap : Nat} (h : d.R e W base ok (.slice (some ad) n cap) xs) (z : α) (i : Int) (h0 : 0 ≤ i) (h1 : i < n) :
  ∃ c,c.length=d.sz∧d.M W base (fun k=>ok k∧some k ≠ (Value.slice (some ad) n cap).ownBlock) (xs.getD i.toNat z) c∧∀ j u,c[j]?=some u→W.cell? (ad.add (i.toNat * d.sz+j))=some u:=by
 obtain ⟨g,rfl⟩:=OW h
 obtain ⟨c,hcl,hM,qP,_⟩:=JE h z i h0 h1
 refine ⟨c,hcl,d.jJ (fun k hk=>⟨hk.1,fun he=>hk.2 (by simpa [Value.ownBlock] using he)⟩) hM,fun j u hu=>?_⟩
 rw [Pg,Nat.zero_add]
 exact qP j u hu
/-- A row whose elements lead to nothing: its blocks are its own one. -/
theorem mh (hE:d.E=[]) (h:d.R e w base ok v xs):d.R e w base (fun k=>some k=v.ownBlock) v xs:=by
 obtain ⟨h0,inner,ho,hr⟩:=h
 refine ⟨fun k hk=>hk.symm,inner,ho,hr.qh (fun p c hp=>d.jJ (fun k hk=>?_) (d.pF hp))⟩
 obtain ⟨_,_,_,q,hq,_⟩:=hk
 rw [hE] at hq
 cases hq
theorem lf (d:Kd α) (e:Nat) (w:World) (base:Nat) (ok:Nat→Prop):S d e w base ok (.slice none 0 0) []:=⟨fun _=>0,kO _ _ _ _ _⟩
theorem bq (h:S d e w base ok v xs) (hok:∀ k,ok k→ok' k):S d e w base ok' v xs:=by
 obtain ⟨f,h⟩:=h
 exact ⟨f,aoY h hok⟩
theorem DG (h:S d e w base ok v xs):S d e w base (fun k=>ok k∧base≤k∧k < w.heap.size∧∃ q,q ∈ e :: d.E∧∃ cells,w.heap[k]?=some (.cells cells q (0,0))) v xs:=by
 obtain ⟨f,h⟩:=h
 exact ⟨f,rZ h⟩
theorem WV (h:S d e w base ok v xs) (hm:∀ k,ok k→w1.heap[k]?=w.heap[k]?):S d e w1 base ok v xs:=by
 obtain ⟨f,h⟩:=h
 exact ⟨f,Bt h hm⟩
theorem ig {base':Nat} (h:S d e w base ok v xs) (hb:base'≤base):S d e w base' ok v xs:=by
 obtain ⟨f,h⟩:=h
 exact ⟨f,cU h hb⟩
theorem F6 (h:S d e w base ok v xs) (hm:∀ k,ok k→k < w.heap.size→w1.heap[k]?=w.heap[k]?):S d e w1 base ok v xs :=
 bq (WV (DG h) (fun k hk=>hm k hk.1 hk.2.2.1)) (fun _ hk=>hk.1)
theorem gB (h:S d e w base ok v xs) (hb:Below w.heap.size w w1):S d e w1 base ok v xs:=F6 h (fun k _ hk=>hb.block k hk)
theorem cr (h:S d e w base ok v xs):S d e w.drew base ok v xs:=gB h (Gb (Below.refl _ _))
theorem cI (h:S d e w base ok v xs) (m:Nat):S d e (w.drewN m) base ok v xs:=gB h (bf (Below.refl _ _) m)
theorem O1 (h:S d e w base ok v xs) {row:Option Nat} (hg:w.grownBy w1 row) (hok:∀ k,ok k→some k ≠ row):S d e w1 base ok v xs:=F6 h (fun k ho hk=>hg.block k hk (hok k ho))
theorem nI (h:S d e w base ok v xs) {p:Addr} (hok:∀ k,ok k→k ≠ p.block) (u:Value):S d e (w.setCell p u) base ok v xs:=F6 h (fun k ho _=>Below.heap_setCell w p u k (hok k ho))
theorem p_ (h:S d e w base ok v xs) {g:Nat} (hk:aoR w w1 g none) (hok:∀ k,ok k→k ≠ g):S d e w1 base ok v xs:=F6 h (fun k ho hlt=>hk.2 k hlt (hok k ho) (by simp))
theorem zK (h:S d e w base ok v xs) {g t:Nat} {cells:Array Value} (hb:w.heap[g]?=some (.cells cells t (0,0))) (ht:∀ q,q ∈ e :: d.E→q ≠ t):S d e w base (fun k=>ok k∧k ≠ g) v xs:=by
 obtain ⟨f,h⟩:=h
 exact ⟨f,aqA h hb ht⟩
theorem iE (h:S d e w base ok v xs):∀ k,v.ownBlock=some k→∃ cells,w.heap[k]?=some (.cells cells e (0,0)):=OZ (qF h)
theorem ap6 (h:S d e w base ok v xs):∀ k,v.ownBlock=some k→k < w.heap.size:=bT (qF h)
theorem nZ (h:S d e w base ok v xs):∀ k,v.ownBlock=some k→base≤k:=aU (qF h)
theorem cC (h:S d e W base ok u xs) (hbase:∀ k,v.ownBlock=some k→W.heap.size≤k) (hb:Below W.heap.size W w1):S d e w1 base (fun k=>ok k∧some k ≠ v.ownBlock) u xs:=by
 obtain ⟨f,h⟩:=h
 exact ⟨f,ao9 h hbase hb⟩
theorem kP (h:S d e w1 W.heap.size ok v xs) (hlt:∀ k,u.ownBlock=some k→k < W.heap.size):S d e w1 W.heap.size (fun k=>ok k∧some k ≠ u.ownBlock) v xs:=by
 obtain ⟨f,h⟩:=h
 exact ⟨f,cT h hlt⟩
/-- Behind an append to v (it left v1): what is held apart from v is held apart from v1. -/
theorem apW {v1:Value} (h:S d e W base (fun k=>ok k∧some k ≠ v.ownBlock) u xs) (hg:W.grownBy w1 v.ownBlock) (ao1:v1.ownBlock=v.ownBlock∨∃ b,v1.ownBlock=some b∧W.heap.size≤b):S d e w1 base (fun k=>ok k∧some k ≠ v1.ownBlock) u xs:=by
 obtain ⟨f,h⟩:=h
 exact ⟨f,ap5 h hg ao1⟩
/-- An elder row over events that only make: its blocks are elder than what was made. -/
theorem O3 (h:S d e W base ok u xs) (hb:Below W.heap.size W w1):S d e w1 base (fun k=>ok k∧k < W.heap.size) u xs :=
 bq (gB (DG h) hb) (fun _ hk=>⟨hk.1,hk.2.2.1⟩)
/-- Elements that lead to nothing. -/
theorem O0 (h:(bare d).R e w base ok v xs):S d e w base ok v xs:=by
 obtain ⟨h0,inner,ho,hr⟩:=h
 refine ⟨fun _=>0,h0,inner,by rw [List.length_zipIdx];exact ho,by rw [List.length_zipIdx];exact hr.1,fun j p hj=>?_⟩
 rw [List.getElem?_zipIdx,Nat.zero_add] at hj
 obtain ⟨x,hx,rfl⟩:=Option.map_eq_some_iff.1 hj
 exact d.jJ (fun _ hk=>hk.elim) (hr.2 j x hx)
/-- The owner may be told anew where nothing is said. -/
theorem WR {f f':Nat→Nat} {zs:List (α × Nat)} (h:(tag f d).R e w base ok v zs) (hf:∀ k,ok k→k < w.heap.size→f' k=f k):(tag f' d).R e w base ok v zs:=by
 obtain ⟨h0,inner,ho,hr⟩:=rZ h
 exact ⟨fun k hk=>(h0 k hk).1,inner,ho,hr.1,fun j p hj=>d.jJ (fun k hk=>⟨⟨hk.1.1.1,hk.1.2⟩,(hf k hk.1.1.1 hk.1.1.2.2.1).trans hk.2⟩) (hr.2 j p hj)⟩
end
section
variable {α β:Type} {d:Kd α} {d':Kd β} {e e' g:Nat} {w w1 W:World} {base b:Nat} {ok ok' CC Tt:Nat→Prop} {u v:Value} {xs:List α} {ys:List β}
theorem jz (h:S d e w base ok v xs) {t:Nat} {cells:Array Value} (hb:w.heap[g]?=some (.cells cells t (0,0))) (ht:e ≠ t):some g ≠ v.ownBlock:=kr (qF h) hb ht
theorem WT (h:S d e w base ok v xs) (hp:0 < xs.length):∃ g cap,v=.slice (some ⟨g,0,none⟩) xs.length cap∧base≤g∧g < w.heap.size∧∃ cells,w.heap[g]?=some (.cells cells e (0,0)):=aql (qF h) hp
theorem zJ (h:S d e w base ok v xs):v.ownBlock=none∨∃ k,v.ownBlock=some k∧base≤k:=DD (qF h)
theorem apc (h:S d e w base ok v xs):∃ A c,v=.slice A xs.length c:=dM (qF h)
theorem cQ {A:Option Addr} {n c:Nat} (h:S d e w base ok (.slice A n c) xs):n=xs.length∧n≤c∧d.C w A xs.length xs:=cx (qF h)
/-- Only read: its cells and what it leads to, as_ the row has them. -/
theorem vS {ad : Addr} {n cap : Nat} (h : S d e W base ok (.slice (some ad) n cap) xs) (z : α) (i : Int) (h0 : 0 ≤ i) (h1 : i < n) :
  ∃ c,c.length=d.sz∧d.M W base (fun k=>ok k∧some k ≠ (Value.slice (some ad) n cap).ownBlock) (xs.getD i.toNat z) c∧∀ j u,c[j]?=some u→W.cell? (ad.add (i.toNat * d.sz+j))=some u:=WM (qF h) z i h0 h1
theorem JI {o:Obj} (h:S d e w1 w.heap.size ok v xs) (hb:w.heap[g]?=some o):S d e w1 w.heap.size (fun k=>ok k∧k ≠ g) v xs:=bq (DG h) (fun k hk=>⟨hk.1,by have:=qH hb;have:=hk.2.1;omega⟩)
/-- It is none of the rows made since. -/
theorem F7 {N:Nat} (h:S d e w1 base (fun k=>ok k∧k < N) u xs) (hbase:∀ k,v.ownBlock=some k→N≤k):S d e w1 base (fun k=>(ok k∧some k ≠ v.ownBlock)∧k < N) u xs :=
 bq h (fun k hk=>⟨⟨hk.1,fun e=>Nat.lt_irrefl _ (Nat.lt_of_lt_of_le hk.2 (hbase k e.symm))⟩,hk.2⟩)
theorem UC (xs:List α) (p:α):(xs ++ [p]).zipIdx=xs.zipIdx ++ [(p,xs.length)]:=by rw [List.zipIdx_append];simp
end
section
open Classical in
/-- The next element's blocks are okp: none is one of v's (okv). -/
theorem O4 {α:Type} {d:Kd α} {e base:Nat} {CC:Nat→Prop} {w:World} {v:Value} {xs:List α} (h:S d e w base CC v xs) (m:Nat) (b_:Nat→Prop) (hap:∀ k,b_ k→¬ CC k):∃ f,(∀ k,b_ k→f k=m)∧(tag f d).R e w base CC v xs.zipIdx:=by
 obtain ⟨f,h⟩:=h
 exact ⟨fun k=>if b_ k then m else f k,fun k hk=>if_pos hk,WR h (fun k hk _=>if_neg (fun h2=>hap k h2 hk))⟩
variable {P:Program} {ops:Array Oper} {rest:List Oper} {o:Oper} {a:Act} {Q:Exit→Act→World→Prop} {Kc:Act→World→Prop} {α:Type}
/-- append(v, x), behind 'at_builtin': x's blocks are okp, none of them v's. -/
theorem uj (d : Kd α) {w0 W : World} (base : Nat) (hgd : o.guard = none) (s x : Operand) (t e : TypeId) (z : Value) (bytes : Nat)
  (ho:o.op=.call { callee:=.builtin .append,args:=#[s,x],argTypes:=#[t,t] })
  (ht:P.underlying t=some (.slice e)) (hinfo:(P.info? e).map (fun i=>(i.zero,i.size,i.bytes))=some (some z,d.sz,bytes)) (hz:z.cells.size=d.sz) (hs0:0 < d.sz) (hb0:0 < bytes)
  (v:Value) (xs:List α) (p:α) (cs:List Value) (ok b_:Nat→Prop) (hs:a.eval s=v) (hx:a.eval x=.slice (some ⟨W.heap.size,0,none⟩) 1 1) (hp:d.M W base b_ p cs) (nN:∀ k,b_ k→ok k∧some k ≠ v.ownBlock) (lM:∀ k,W.heap.size≤k→ok k)
  (HO:S d e W base (fun k=>ok k∧¬ b_ k) v xs) (HB:Below base w0 W) (hbase:base≤W.heap.size) (hl:(xs.length+1) * bytes≤140737488355328)
  (h:∀ v1 w1,S d e w1 base ok v1 (xs ++ [p])→Below base w0 w1→W.grownBy w1 v.ownBlock→(v1.ownBlock=v.ownBlock∨∃ b,v1.ownBlock=some b∧W.heap.size≤b)→wpList P ops Q rest (a.put o.dst v1) w1) :
  wpList P ops Q (o :: rest) a (W.alloc (.cells cs.toArray e)):=by
 obtain ⟨f,hf,hR⟩:=O4 HO xs.length b_ (fun _ hk h2=>h2.2 hk)
 refine p9 (tag f d) base hgd s x t e z bytes ho ht hinfo hz hs0 hb0 v xs.zipIdx (p,xs.length) cs ok b_ hs hx (d.jJ (fun k hk=>⟨hk,hf k hk⟩) hp) nN lM (aoY hR (fun _ hk=>hk.1)) HB hbase (by rw [List.length_zipIdx];exact hl) ?_
 intro v1 w1 hr
 rw [← UC] at hr
 exact h v1 w1 ⟨f,hr⟩
theorem F5 (d : Kd α) {w0 W : World} (base : Nat) (hw : Region.wanted o (yielded ops a.tmps) = true) (s x : Operand) (t e : TypeId) (z : Value) (bytes : Nat)
  (ho:o.op=.call { callee:=.builtin .append,args:=#[s,x],argTypes:=#[t,t] })
  (ht:P.underlying t=some (.slice e)) (hinfo:(P.info? e).map (fun i=>(i.zero,i.size,i.bytes))=some (some z,d.sz,bytes)) (hz:z.cells.size=d.sz) (hs0:0 < d.sz) (hb0:0 < bytes)
  (v:Value) (xs:List α) (p:α) (cs:List Value) (ok b_:Nat→Prop) (hs:a.eval s=v) (hx:a.eval x=.slice (some ⟨W.heap.size,0,none⟩) 1 1) (hp:d.M W base b_ p cs) (nN:∀ k,b_ k→ok k∧some k ≠ v.ownBlock) (lM:∀ k,W.heap.size≤k→ok k)
  (HO:S d e W base (fun k=>ok k∧¬ b_ k) v xs) (HB:Below base w0 W) (hbase:base≤W.heap.size) (hl:(xs.length+1) * bytes≤140737488355328)
  (h:∀ v1 w1,S d e w1 base ok v1 (xs ++ [p])→Below base w0 w1→W.grownBy w1 v.ownBlock→(v1.ownBlock=v.ownBlock∨∃ b,v1.ownBlock=some b∧W.heap.size≤b)→Kc (a.put o.dst v1) w1) :
  if Region.wanted o (yielded ops a.tmps)=true then Oper.wp P o a (W.alloc (.cells cs.toArray e)) Kc Q else Kc (a.put o.dst undef) (W.alloc (.cells cs.toArray e)):=by
 obtain ⟨f,hf,hR⟩:=O4 HO xs.length b_ (fun _ hk h2=>h2.2 hk)
 refine OU (tag f d) base hw s x t e z bytes ho ht hinfo hz hs0 hb0 v xs.zipIdx (p,xs.length) cs ok b_ hs hx (d.jJ (fun k hk=>⟨hk,hf k hk⟩) hp) nN lM (aoY hR (fun _ hk=>hk.1)) HB hbase (by rw [List.length_zipIdx];exact hl) ?_
 intro v1 w1 hr
 rw [← UC] at hr
 exact h v1 w1 ⟨f,hr⟩
/-- A literal whose elements lead to nothing. -/
theorem DH (d : Kd α) {w0 W : World} (base e : Nat) (hgd : o.guard = none) {N : Tmp} (_hd : o.dst = some N) {xs : List α} {inner : List Value} {ok b_ : Nat → Prop}
  (hrun:(execOp a.eval o).run P W=.ok (.value (.slice (some ⟨W.heap.size,0,none⟩) xs.length xs.length)) (W.alloc (.cells inner.toArray e)))
  (qT:bh (d.M W base (fun _=>False)) d.sz xs inner) (_hok:∀ k,b_ k→ok k) (lM:ok W.heap.size) (HB:Below base w0 W) (hbase:base≤W.heap.size) (hm:xs.length≤9223372036854775807)
  (h:∀ v1 w1,S d e w1 base ok v1 xs→Below base w0 w1→W.grownBy w1 none→(∃ b,v1.ownBlock=some b∧W.heap.size≤b)→wpList P ops Q rest (a.put o.dst v1) w1):wpList P ops Q (o :: rest) a W :=
 jr (bare d) base e hgd _hd (ok:=ok) (b_:=ok) hrun qT (fun _ hk=>hk) lM HB hbase hm (fun v1 w1 hr=>h v1 w1 (O0 hr))
theorem WU (d : Kd α) {w0 W : World} (base e : Nat) (hw : Region.wanted o (yielded ops a.tmps) = true) {N : Tmp} (_hd : o.dst = some N) {xs : List α} {inner : List Value} {ok b_ : Nat → Prop}
  (hrun:(execOp a.eval o).run P W=.ok (.value (.slice (some ⟨W.heap.size,0,none⟩) xs.length xs.length)) (W.alloc (.cells inner.toArray e)))
  (qT:bh (d.M W base (fun _=>False)) d.sz xs inner) (_hok:∀ k,b_ k→ok k) (lM:ok W.heap.size) (HB:Below base w0 W) (hbase:base≤W.heap.size) (hm:xs.length≤9223372036854775807)
  (h:∀ v1 w1,S d e w1 base ok v1 xs→Below base w0 w1→W.grownBy w1 none→(∃ b,v1.ownBlock=some b∧W.heap.size≤b)→Kc (a.put o.dst v1) w1) :
  if Region.wanted o (yielded ops a.tmps)=true then Oper.wp P o a W Kc Q else Kc (a.put o.dst undef) W :=
 JF (bare d) base e hw _hd (ok:=ok) (b_:=ok) hrun qT (fun _ hk=>hk) lM HB hbase hm (fun v1 w1 hr=>h v1 w1 (O0 hr))
end
/-- Element i is these cells; the others are d's. -/
def Gv {α:Type} (f:Nat→Nat) (d:Kd α) (i:Nat) (c:List Value):Kd (α × Nat) where
 sz:=d.sz
 E:=d.E
 K:=fun w x cs=>(x.2=i→cs=c∧cs.length=d.sz∧∀ u ∈ cs,u.oneCell'=true)∧(x.2 ≠ i→d.K w x.1 cs)
 M:=fun w base ok x cs=>(x.2=i→cs=c∧cs.length=d.sz∧∀ u ∈ cs,u.oneCell'=true)∧(x.2 ≠ i→d.M w base (fun k=>ok k∧f k=x.2) x.1 cs)
 apM:=fun {w x cs} h=>by
  by_cases hx:x.2=i
  ·exact (h.1 hx).2.1
  ·exact d.apM (h.2 hx)
 pE:=fun {w x cs} h=>by
  by_cases hx:x.2=i
  ·exact (h.1 hx).2.2
  ·exact d.pE (h.2 hx)
 ua:=fun hb h=>⟨h.1,fun hx=>d.ua hb (h.2 hx)⟩
 mZ:=fun h=>⟨h.1,fun hx=>d.mZ (h.2 hx)⟩
 jJ:=fun hok h=>⟨h.1,fun hx=>d.jJ (fun k hk=>⟨hok k hk.1,hk.2⟩) (h.2 hx)⟩
 pF:=fun h=>⟨h.1,fun hx=>d.jJ (fun _ hk=>⟨⟨hk.1.1,hk.2⟩,hk.1.2⟩) (d.pF (h.2 hx))⟩
 pG:=fun hm h=>⟨h.1,fun hx=>d.pG (fun k hk=>hm k hk.1) (h.2 hx)⟩
 ud:=fun hb h=>⟨h.1,fun hx=>d.ud hb (h.2 hx)⟩
def H {α:Type} (d:Kd α) (e:Nat) (w:World) (base:Nat) (ok:Nat→Prop) (v:Value) (xs:List α) (i:Int) (aph:Nat→Prop) (c:List Value):Prop :=
 (∀ k,aph k→ok k)∧∃ f,(Gv f d i.toNat c).R e w base (fun k=>ok k∧¬ aph k) v xs.zipIdx
section
variable {α β:Type} {d:Kd α} {e e' g n cap:Nat} {w w1 W:World} {base:Nat} {ok ok' aph b_:Nat→Prop} {u v:Value} {xs:List α} {i:Int} {c:List Value}
/-- Element i, lent: its cells, its blocks, and the row without it. -/
theorem O2 (h : S d e W base ok (.slice (some ⟨g, 0, none⟩) n cap) xs) (z : α) (i : Int) (h0 : 0 ≤ i) (h1 : i < n) :
  ∃ (aph:Nat→Prop) (c:List Value),c.length=d.sz∧d.M W base aph (xs.getD i.toNat z) c∧(∀ j u,c[j]?=some u→W.cell? ⟨g,i.toNat * d.sz+j,none⟩=some u)∧(∀ k,aph k→ok k∧k ≠ g)∧H d e W base ok (.slice (some ⟨g,0,none⟩) n cap) xs i aph c:=by
 obtain ⟨f,hR⟩:=h
 have hn:=(cx hR).1
 rw [List.length_zipIdx] at hn
 have hgo:some g=(Value.slice (some ⟨g,0,none⟩) n cap).ownBlock:=by simp [Value.ownBlock]
 obtain ⟨hok0,inner,ho,hr⟩:=hR
 have hil:i.toNat < xs.length:=by omega
 have hlen:inner.length=xs.length * d.sz:=by have:=hr.1;rw [List.length_zipIdx] at this;exact this
 have Ho:i.toNat * d.sz+d.sz≤inner.length:=by rw [hlen,← Nat.succ_mul];exact Nat.mul_le_mul_right _ hil
 have hM:=hr.2 i.toNat _ (zc (List.getElem?_eq_getElem hil))
 have Lu:∀ k,some k ≠ (Value.slice (some ⟨g,0,none⟩) n cap).ownBlock→k ≠ g:=fun k hk he=>hk (by rw [he];exact hgo)
 refine ⟨fun k=>(ok k∧k ≠ g)∧f k=i.toNat,(inner.drop (i.toNat * d.sz)).take d.sz,by rw [List.length_take,List.length_drop];omega,?_,fun j u hu=>?_,fun k hk=>hk.1,fun k hk=>hk.1.1,f,fun k hk=>⟨hok0 k hk,fun h2=>h2.1.2 ?_⟩,inner,ho,hr.1,fun m p hm=>?_⟩
 ·rw [List.getD_eq_getElem?_getD, List.getElem?_eq_getElem hil]
  exact d.jJ (fun k hk=>⟨⟨hk.1.1,Lu k hk.1.2⟩,hk.2⟩) hM
 ·rw [List.getElem?_take] at hu
  split at hu
  ·rw [List.getElem?_drop] at hu
   have:=ho.cells (g:=g) hgo.symm _ u hu
   rwa [add_plain] at this
  ·cases hu
 ·rw [← hgo] at hk;injection hk with hk;exact hk.symm
 ·have hold := hr.2 m p hm
  have hp2:p.2=m:=by
   rw [List.getElem?_zipIdx,Nat.zero_add] at hm
   obtain ⟨q,_,rfl⟩:=Option.map_eq_some_iff.1 hm
   rfl
  refine ⟨fun hx=>?_,fun hx=>d.jJ (fun k hk=>⟨⟨⟨hk.1.1,fun h2=>hx ?_⟩,hk.1.2⟩,hk.2⟩) hold⟩
  ·have yL : m = i.toNat := by omega
   subst yL
   exact ⟨rfl,d.apM (d.mZ hM),d.pE (d.mZ hM)⟩
  ·rw [← hk.2];exact h2.2
open Classical in
/-- The element put back: its blocks are among those that were lent. -/
theorem OD (h:H d e w base ok v xs i aph c) {x':α} (hM:d.M w base b_ x' c) (hok:∀ k,b_ k→aph k):S d e w base ok v (xs.set i.toNat x'):=by
 obtain ⟨ho,f,h0,inner,hown,hr⟩:=h
 refine ⟨fun k=>if aph k then i.toNat else f k,fun k hk=>(h0 k hk).1,inner,by rw [List.length_zipIdx,List.length_set];rw [List.length_zipIdx] at hown;exact hown,by have:=hr.1;rw [List.length_zipIdx] at this;rw [List.length_zipIdx,List.length_set];exact this,fun m p hm=>?_⟩
 rw [List.getElem?_zipIdx,Nat.zero_add] at hm
 obtain ⟨q,hq,rfl⟩:=Option.map_eq_some_iff.1 hm
 have hml:m < xs.length:=by
  have:=(List.getElem?_eq_some_iff.1 hq).1
  rwa [List.length_set] at this
 by_cases yL:m=i.toNat
 ·subst yL
  rw [List.getElem?_set_self hml] at hq
  injection hq with hq
  subst hq
  have hc:=((hr.2 i.toNat _ (zc (List.getElem?_eq_getElem hml))).1 rfl).1
  show d.M w base _ x' ((inner.drop (i.toNat * d.sz)).take d.sz)
  rw [show (inner.drop (i.toNat * d.sz)).take d.sz=c from hc]
  exact d.jJ (fun k hk=>⟨⟨ho k (hok k hk),fun he=>(h0 k he.symm).2 (hok k hk)⟩,if_pos (hok k hk)⟩) hM
 ·rw [List.getElem?_set_ne (Ne.symm yL)] at hq
  exact d.jJ (fun k hk=>⟨⟨hk.1.1.1,hk.1.2⟩,(if_neg hk.1.1.2).trans hk.2⟩) ((hr.2 m (q,m) (zc hq)).2 yL)
/-- What is lent may take in what is new. -/
theorem V5 (h:H d e w base ok v xs i aph c):H d e w base ok v xs i (fun k=>aph k∨ok k∧w.heap.size≤k) c:=by
 obtain ⟨ho,f,h⟩:=h
 exact ⟨fun k hk=>hk.elim (ho k) (fun h2=>h2.1),f,aoY (rZ h) (fun k hk=>⟨hk.1.1,fun h2=>h2.elim hk.1.2 (fun h3=>by have:=hk.2.2.1;omega)⟩)⟩
theorem V4 (h:H d e w base ok v xs i aph c) (hm:∀ k,ok k→¬ aph k→k < w.heap.size→w1.heap[k]?=w.heap[k]?):H d e w1 base ok v xs i aph c:=by
 obtain ⟨ho,f,h⟩:=h
 exact ⟨ho,f,Bu h (fun k hk hlt=>hm k hk.1 hk.2 hlt)⟩
/-- A row that was lent has been written (appended to, stored into). -/
theorem OE (h:H d e w base ok v xs i aph c) {row:Option Nat} (hg:w.grownBy w1 row) (hrow:∀ k,row=some k→aph k):H d e w1 base ok v xs i aph c :=
 V4 h (fun k _ hn hlt=>hg.block k hlt (fun he=>hn (hrow k he.symm)))
/-- ok may be told anew where the row and what is lent allow it. -/
theorem V1 (h:H d e w base ok v xs i aph c) (hok:∀ k,ok k→ok' k):H d e w base ok' v xs i aph c:=by
 obtain ⟨ho,f,h⟩:=h
 exact ⟨fun k hk=>hok k (ho k hk),f,aoY h (fun k hk=>⟨hok k hk.1,hk.2⟩)⟩
/-- More may be lent: what is nobody's. -/
theorem V2 {xA:Nat→Prop} (h:H d e w base (fun k=>ok k∧¬ xA k) v xs i aph c) (hg:∀ k,xA k→ok k):H d e w base ok v xs i (fun k=>aph k∨xA k) c:=by
 obtain ⟨ho,f,h⟩:=h
 exact ⟨fun k hk=>hk.elim (fun h2=>(ho k h2).1) (hg k),f,aoY h (fun k hk=>⟨hk.1.1,fun h2=>h2.elim hk.2 hk.1.2⟩)⟩
/-- For one event on what element i leads to (an inner row stored into): the element's cells stay. -/
theorem DF {ad : Addr} (h : S d e W base ok (.slice (some ad) n cap) xs) (z : α) (i : Int) (h0 : 0 ≤ i) (h1 : i < n) :
  ∃ (aph : Nat → Prop) (c : List Value), c.length = d.sz ∧ d.M W base aph (xs.getD i.toNat z) c ∧ (∀ j u, c[j]? = some u → W.cell? (ad.add (i.toNat * d.sz + j)) = some u) ∧ (∀ k, aph k → ok k ∧ some k ≠ (Value.slice (some ad) n cap).ownBlock) ∧
   ∀ {w1:World} {row:Option Nat} {x':α},W.grownBy w1 row→(∀ k,row=some k→aph k)→d.M w1 base aph x' c→S d e w1 base ok (.slice (some ad) n cap) (xs.set i.toNat x'):=by
 obtain ⟨g,rfl⟩:=OW (qF h)
 obtain ⟨aph,c,hcl,hM,qP,Hh,hH⟩:=O2 h z i h0 h1
 refine ⟨aph,c,hcl,hM,fun j u hu=>?_,fun k hk=>⟨(Hh k hk).1,fun he=>(Hh k hk).2 ?_⟩,fun hg hrow Gy=>OD (OE hH hg hrow) Gy (fun _ hk=>hk)⟩
 ·rw [Pg, Nat.zero_add]
  exact qP j u hu
 ·simpa [Value.ownBlock] using he
/-- Element i, its blocks (oki) first; hH: the row without it, for S_seg. -/
theorem WS (h : S d e W base ok (.slice (some ⟨g, 0, none⟩) n cap) xs) (z : α) (i : Int) (h0 : 0 ≤ i) (h1 : i < n) :
  ∃ (aph:Nat→Prop) (c:List Value),c.length=d.sz∧d.M W base aph (xs.getD i.toNat z) c∧(∀ j u,c[j]?=some u→W.cell? ⟨g,i.toNat * d.sz+j,none⟩=some u)∧(∀ j,W.frozen? ⟨g,i.toNat * d.sz+j,none⟩=false)∧(∀ k,aph k→ok k∧k ≠ g)∧H d e W base ok (.slice (some ⟨g,0,none⟩) n cap) xs i aph c:=by
 obtain ⟨_,_,_,_,hfr⟩:=JE (qF h) z i h0 h1
 obtain ⟨aph,c,hcl,hM,qP,Hh,hH⟩:=O2 h z i h0 h1
 exact ⟨aph,c,hcl,hM,qP,hfr,Hh,hH⟩
/-- The row as_ cells: what was done to the block, done to the hole. -/
theorem Jr (h : H d e W base ok (.slice (some ⟨g, 0, none⟩) n cap) xs i aph c) (h0 : 0 ≤ i) (h1 : i < n) :
  ∃ rows : List (List Value), rows.length = xs.length ∧ (raw d.sz).R e W base (fun _ => True) (.slice (some ⟨g, 0, none⟩) n cap) rows ∧ c.length = d.sz ∧ (∀ u ∈ c, u.oneCell' = true) ∧ (∀ j u, c[j]? = some u → W.cell? ⟨g, i.toNat * d.sz + j, none⟩ = some u) ∧
   ∀ w1 c',W.grownBy w1 (some g)→(raw d.sz).R e w1 base (fun _=>True) (.slice (some ⟨g,0,none⟩) n cap) (rows.set i.toNat c')→H d e w1 base ok (.slice (some ⟨g,0,none⟩) n cap) xs i aph c':=by
 obtain ⟨hoo,f,hR⟩:=h
 have hn:=(cx hR).1
 rw [List.length_zipIdx] at hn
 have hgo:some g=(Value.slice (some ⟨g,0,none⟩) n cap).ownBlock:=by simp [Value.ownBlock]
 obtain ⟨hok0,inner,ho,hr⟩:=hR
 have hil:i.toNat < xs.length:=by omega
 have hlen:inner.length=xs.length * d.sz:=by have:=hr.1;rw [List.length_zipIdx] at this;exact this
 have Lu:∀ k,some k ≠ (Value.slice (some ⟨g,0,none⟩) n cap).ownBlock→k ≠ g:=fun k hk he=>hk (by rw [he];exact hgo)
 have hci:=(hr.2 i.toNat _ (zc (List.getElem?_eq_getElem hil))).1 rfl
 rw [hci.1] at hci
 have hc:=((hr.2 i.toNat _ (zc (List.getElem?_eq_getElem hil))).1 rfl).1
 refine ⟨(List.range xs.length).map fun j=>(inner.drop (j * d.sz)).take d.sz,by rw [List.length_map,List.length_range],⟨fun _ _=>trivial,inner,?_,?_,fun j p hj=>?_⟩,hci.2.1,hci.2.2,fun j u hu=>?_,fun w1 c' hg EU=>?_⟩
 ·rw [List.length_map,List.length_range];rw [List.length_zipIdx] at ho;exact ho
 ·rw [List.length_map,List.length_range];exact hlen
 ·rw [List.getElem?_map] at hj
  obtain ⟨j',hj',rfl⟩:=Option.map_eq_some_iff.1 hj
  obtain ⟨hl,he⟩:=List.getElem?_eq_some_iff.1 hj'
  rw [List.getElem_range] at he
  subst he
  rw [List.length_range] at hl
  have hm:=(Gv f d i.toNat c).mZ (hr.2 j _ (zc (List.getElem?_eq_getElem hl)))
  exact ⟨rfl,(Gv f d i.toNat c).apM hm,(Gv f d i.toNat c).pE hm⟩
 ·rw [← hc, List.getElem?_take] at hu
  split at hu
  ·rw [List.getElem?_drop] at hu
   have:=ho.cells (g:=g) hgo.symm _ u hu
   rwa [add_plain] at this
  ·cases hu
 ·obtain ⟨_, inner', ho', hr'⟩ := EU
  have hl':inner'.length=xs.length * d.sz:=by have:=hr'.1;rw [List.length_set,List.length_map,List.length_range] at this;exact this
  rw [List.length_set,List.length_map,List.length_range] at ho'
  refine ⟨hoo,f,hok0,inner',by rw [List.length_zipIdx];exact ho',by rw [List.length_zipIdx];exact hl',fun m p hm=>?_⟩
  rw [List.getElem?_zipIdx,Nat.zero_add] at hm
  obtain ⟨q,hq,rfl⟩:=Option.map_eq_some_iff.1 hm
  have hml:m < xs.length:=(List.getElem?_eq_some_iff.1 hq).1
  have hold:=hr.2 m (q,m) (zc hq)
  refine ⟨fun hx=>?_,fun hx=>?_⟩
  ·have hx' : m = i.toNat := hx
   subst hx'
   exact hr'.2 i.toNat c' (List.getElem?_set_self (by rw [List.length_map,List.length_range];exact hml))
  ·have hx' : m ≠ i.toNat := hx
   have KF:=(hr'.2 m ((inner.drop (m * d.sz)).take d.sz) (by
    rw [List.getElem?_set_ne (Ne.symm hx'),List.getElem?_map,List.getElem?_eq_getElem (by rw [List.length_range];exact hml),List.getElem_range]
    rfl)).1
   show d.M w1 base _ q ((inner'.drop (m * d.sz)).take d.sz)
   rw [show (inner'.drop (m * d.sz)).take d.sz=_ from KF]
   exact d.jJ (fun k hk=>hk.1) (d.pG (w1:=w1) (fun k hk=>hg.block k hk.2.2.1 (fun he=>Lu k hk.1.1.2 (by injection he))) (d.pF (hold.2 hx)))
/-- Cells of the hole are written. -/
theorem V3 (h : H d e W base ok (.slice (some ⟨g, 0, none⟩) n cap) xs i aph c) (h0 : 0 ≤ i) (h1 : i < n) {seg : List Value} {j : Nat} (hj : j + seg.length ≤ d.sz) (hone : ∀ q ∈ seg, q.oneCell' = true) :
  H d e (W.setCells g (i.toNat * d.sz+j) seg) base ok (.slice (some ⟨g,0,none⟩) n cap) xs i aph (c.take j ++ seg ++ c.drop (j+seg.length))∧W.grownBy (W.setCells g (i.toNat * d.sz+j) seg) (some g):=by
 obtain ⟨rows,_,EU,hcl,Q5,qP,aab⟩:=Jr h h0 h1
 obtain ⟨h2, h3⟩ := WQ EU i h0 h1 (c := c) (seg := seg) (j := j) (x' := c.take j ++ seg ++ c.drop (j + seg.length)) (b_ := fun _ => False) hcl qP hj
  ⟨rfl,by
   show (c.take j ++ seg ++ c.drop (j+seg.length)).length=d.sz
   simp only [List.length_append,List.length_take,List.length_drop];omega,fun u hu=>by
   rcases List.mem_append.1 hu with hu|hu
   ·rcases List.mem_append.1 hu with hu | hu
    ·exact Q5 u (List.mem_of_mem_take hu)
    ·exact hone u hu
   ·exact Q5 u (List.mem_of_mem_drop hu)⟩ (fun _ hk=>hk.elim)
 exact ⟨aab _ _ h3 h2,h3⟩
/-- A run of cells of element i is written, the element is x' then: its blocks are of those it had, or of okg (nobody's so far). hH: S_elem's, of the row at 'ok and not okg'. -/
theorem WW {xA : Nat → Prop} (hH : H d e W base (fun k => ok k ∧ ¬ xA k) (.slice (some ⟨g, 0, none⟩) n cap) xs i aph c) (h0 : 0 ≤ i) (h1 : i < n) {seg : List Value} {j : Nat} (hj : j + seg.length ≤ d.sz)
  {x':α} (hM:d.M W base b_ x' (c.take j ++ seg ++ c.drop (j+seg.length))) (nN:∀ k,b_ k→aph k∨xA k) (hg:∀ k,xA k→ok k∧k ≠ g) :
  S d e (W.setCells g (i.toNat * d.sz+j) seg) base ok (.slice (some ⟨g,0,none⟩) n cap) (xs.set i.toNat x')∧W.grownBy (W.setCells g (i.toNat * d.sz+j) seg) (some g):=by
 have hne:∀ k,aph k∨xA k→k ≠ g:=by
  intro k hk he
  subst he
  rcases hk with hk|hk
  ·obtain ⟨_, f, hR⟩ := hH
   exact (hR.1 k (by simp [Value.ownBlock])).2 hk
  ·exact (hg k hk).2 rfl
 obtain ⟨h2,h3⟩:=V3 (V2 hH (fun k hk=>(hg k hk).1)) h0 h1 hj (fun q hq=>d.pE (d.mZ hM) q (List.mem_append_left _ (List.mem_append_right _ hq)))
 exact ⟨OD h2 (OH hM (fun k hk hlt=>h3.block k hlt (fun he=>hne k (nN k hk) (by injection he)))) nN,h3⟩
end
end Kd
end Go.Proofs.bY.apf
/- Set with little white space, by a program. -/
