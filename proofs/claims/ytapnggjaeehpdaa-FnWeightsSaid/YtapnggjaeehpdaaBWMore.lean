/- Words on rows, worlds and walks that the texts of one law use (chosen by a program out of the seat's printed words). No condition beyond each theorem's own. -/
import Derived.Test.YtapnggjaeehpdaaBWWords
import Derived.Test.YtapnggjaeehpdaaBWLast
import Derived.Test.YtapnggjaeehpdaaBWWords
import Derived.Test.YtapnggjaeehpdaaBWLast
import Derived.Test.YtapnggjaeehpdaaBWApart
import Derived.Test.YtapnggjaeehpdaaBWApart
import Derived.Test.YtapnggjaeehpdaaBWWords
import Derived.Test.YtapnggjaeehpdaaBWFoot
import Derived.Test.YtapnggjaeehpdaaBWKept
import Derived.Test.YtapnggjaeehpdaaBWN
namespace Go.Proofs.bz.jn
open Go.RowKit Go.Proofs.bz.dI
namespace Kd
open Go.Proofs.bz.dI.Kd
end Kd
namespace Kd
open Go.Proofs.bz.dI.Kd
section
variable {α:Type} {d:Kd α} {e base g N:Nat} {ok:Nat→Prop} {W w1:World} {u v:Value} {xs:List α}
/-- An elder row over an event that only makes: its blocks are elder than what was made. -/
theorem Jx (hu:d.R e W base ok u xs) (hb:Below W.heap.size W w1):d.R e w1 base (fun k=>ok k∧k < W.heap.size) u xs :=
 aH (vO (ru hu) hb) (fun _ h=>⟨h.1,h.2.2.1⟩)
/-- The same over a state's call. -/
theorem acE (hu:d.R e W base (fun k=>ok k∧k ≠ g) u xs) (hk:bx W w1 g none):d.R e w1 base (fun k=>ok k∧k < W.heap.size) u xs :=
 aH (atM (ru hu) hk (fun _ h=>h.1.2)) (fun _ h=>⟨h.1.1,h.2.2.1⟩)
/-- It is none of the rows made since. -/
theorem yR (h:d.R e w1 base (fun k=>ok k∧k < N) u xs) (hbase:∀ k,v.ownBlock=some k→N≤k):d.R e w1 base (fun k=>(ok k∧some k ≠ v.ownBlock)∧k < N) u xs :=
 aH h (fun k hk=>⟨⟨hk.1,fun e=>Nat.lt_irrefl _ (Nat.lt_of_lt_of_le hk.2 (hbase k e.symm))⟩,hk.2⟩)
end
end Kd
/-- 'max' and 'min' of two whole numbers. -/
theorem max2_int (k k':IntKind) (x y:Int):Builtin.max2 (.int k x) (.int k' y)=pure (.int k (if x < y then y else x)):=by simp only [Builtin.max2,gt_iff_lt]
theorem min2_int (k k':IntKind) (x y:Int):Builtin.min2 (.int k x) (.int k' y)=pure (.int k (if y < x then y else x)):=by simp only [Builtin.min2]
theorem max_two (ats:Array TypeId) (ty:TypeId) (a b:Value):Builtin.max_ ats ty #[a,b]=(Builtin.max2 a b >>= fun s=>pure s):=by simp only [Builtin.max_,List.foldlM_cons,List.foldlM_nil]
theorem min_two (ats:Array TypeId) (ty:TypeId) (a b:Value):Builtin.min_ ats ty #[a,b]=(Builtin.min2 a b >>= fun s=>pure s):=by simp only [Builtin.min_,List.foldlM_cons,List.foldlM_nil]
theorem max_three (ats:Array TypeId) (ty:TypeId) (a b c:Value):Builtin.max_ ats ty #[a,b,c]=(Builtin.max2 a b >>= fun s=>Builtin.max2 s c >>= fun s=>pure s):=by simp only [Builtin.max_,List.foldlM_cons,List.foldlM_nil]
theorem min_three (ats:Array TypeId) (ty:TypeId) (a b c:Value):Builtin.min_ ats ty #[a,b,c]=(Builtin.min2 a b >>= fun s=>Builtin.min2 s c >>= fun s=>pure s):=by simp only [Builtin.min_,List.foldlM_cons,List.foldlM_nil]
theorem max_four (ats:Array TypeId) (ty:TypeId) (a b c d:Value):Builtin.max_ ats ty #[a,b,c,d]=(Builtin.max2 a b >>= fun s=>Builtin.max2 s c >>= fun s=>Builtin.max2 s d >>= fun s=>pure s):=by simp only [Builtin.max_,List.foldlM_cons,List.foldlM_nil]
theorem min_four (ats:Array TypeId) (ty:TypeId) (a b c d:Value):Builtin.min_ ats ty #[a,b,c,d]=(Builtin.min2 a b >>= fun s=>Builtin.min2 s c >>= fun s=>Builtin.min2 s d >>= fun s=>pure s):=by simp only [Builtin.min_,List.foldlM_cons,List.foldlM_nil]
end Go.Proofs.bz.jn
namespace Go.Proofs.bz.dI
open Go.RowKit
section
variable {P:Program} {ops:Array Oper} {rest:List Oper} {o:Oper} {a:Act} {Q:Exit→Act→World→Prop} {W:World}
/-- The operation is a call of this function (a cheap look ahead of a dear step). -/
theorem aT {f:FuncId} {as:Array Operand} {ts:Array TypeId} (_ho:o.op=.call { callee:=.value (.func f),args:=as,argTypes:=ts }) (h:wpList P ops Q (o :: rest) a W):wpList P ops Q (o :: rest) a W:=h
/-- The operation is a builtin over these places. -/
theorem ji {b:Builtin} {xs:Array Operand} {ts:Array TypeId} (_ho:o.op=.call { callee:=.builtin b,args:=xs,argTypes:=ts }) (h:wpList P ops Q (o :: rest) a W):wpList P ops Q (o :: rest) a W:=h
end
/-- The greater of two whole numbers, as Go's max tells it. -/
def mx (a b:Int):Int:=if a < b then b else a
/-- It says x = x, and that is its use: 'rw [drewN_self w]' fails where the world was not drawn, and the row behind it is skipped. -/
theorem U1 (w:World) (n:Nat):w.drewN n=w.drewN n:=rfl
theorem aeR {W:World} {o:Obj} {a:Addr} {v:Value} (h:(W.alloc o).cell? a=some v) (hlt:a.block < W.heap.size):W.cell? a=some v:=(World.cell?_alloc_lt _ _ _ hlt).symm.trans h
/-- A cell of a block that an event leaves alone. -/
theorem tq {W w1:World} {row:Option Nat} (hg:W.grownBy w1 row) {a:Addr} {v:Value} (h:W.cell? a=some v) (hne:some a.block ≠ row):w1.cell? a=some v:=by
 have:=hg.block a.block (World.block_lt_of_cell? W a h) hne
 simpa [World.cell?,this] using h
namespace Kd
section
variable {α:Type} {d:Kd α} {e base:Nat} {ok:Nat→Prop} {W w1:World} {v:Value} {xs:List α}
/-- A row of scalars beside a block that is not its own: written. -/
theorem acD (h:d.R e W base ok v xs) (hE:d.E=[]) {row:Option Nat} (hg:W.grownBy w1 row) (hne:row ≠ v.ownBlock):d.R e w1 base ok v xs :=
 aH (acC (om hE h) hg (fun _ hk e_=>hne (e_.symm.trans hk))) (fun k hk=>h.1 k hk.symm)
/-- The same, told: its block is not that one. -/
theorem TC (h:d.R e W base ok v xs) (hE:d.E=[]) {g:Nat} (hne:some g ≠ v.ownBlock):d.R e W base (fun k=>ok k∧k ≠ g) v xs :=
 aH (om hE h) (fun k hk=>⟨h.1 k hk.symm,fun e_=>hne (by rw [← e_];exact hk)⟩)
end
section
variable {α:Type} {d:Kd α} {e base g n cap:Nat} {ok ek cm:Nat→Prop} {W:World} {xs:List α} {i:Int} {c:List Value}
/-- The place where an element's row comes back: its cells are there, and may be written. -/
theorem abP (h:H d e W base ok (.slice (some ⟨g,0,none⟩) n cap) xs i ek c) (h0:0≤i) (h1:i < n):(∀ j u,c[j]?=some u→W.cell? ⟨g,i.toNat * d.sz+j,none⟩=some u)∧∀ j,W.frozen? ⟨g,i.toNat * d.sz+j,none⟩=false:=by
 obtain ⟨rows,_,y8,_,_,rE,_⟩:=Nb h h0 h1
 obtain ⟨_,_,_,_,hfr⟩:=FV y8 [] i h0 h1
 exact ⟨rE,hfr⟩
theorem acP (hH : H d e W base ok (.slice (some ⟨g, 0, none⟩) n cap) xs i ek c) (h0 : 0 ≤ i) (h1 : i < n) {seg : List Value} {j : Nat} (hj : j + seg.length ≤ d.sz)
  {x':α} (hM:d.M W base cm x' (c.take j ++ seg ++ c.drop (j+seg.length))) (mJ:∀ k,cm k→ek k) :
  S d e (W.setCells g (i.toNat * d.sz+j) seg) base ok (.slice (some ⟨g,0,none⟩) n cap) (xs.set i.toNat x')∧W.grownBy (W.setCells g (i.toNat * d.sz+j) seg) (some g) :=
 acO (zj:=fun _=>False) (abS hH (fun _ hk=>⟨hk,fun h=>h⟩)) h0 h1 hj hM (fun k hk=>.inl (mJ k hk)) (fun _ hk=>hk.elim)
end
end Kd
end Go.Proofs.bz.dI
namespace Go.Proofs.bz.dI
open Go.RowKit
namespace Kd
/-- A row that is only read, told by its value: its form, its length, what it leads to (in ok). e and base say nothing; they make it as the others are. -/
def V {α:Type} (d:Kd α) (_e:Nat) (W:World) (_base:Nat) (ok:Nat→Prop) (v:Value) (xs:List α):Prop:=∃ A c,v=.slice A xs.length c∧xs.length≤c∧F d W ok A xs.length xs
section
variable {α β:Type} {d:Kd α} {e base base' n m c g N' lo hi:Nat} {ok ok' S:Nat→Prop} {w W w1:World} {A:Option Addr} {ad:Addr} {u v v1:Value} {xs:List α}
theorem s9 (h:V d e W base ok v xs) (hF:∀ A,F d W ok A xs.length xs→F d w1 ok' A xs.length xs):V d e w1 base' ok' v xs:=by
 obtain ⟨A,c,hv,hl,hf⟩:=h
 exact ⟨A,c,hv,hl,hF A hf⟩
theorem acU (hl:xs.length≤c) (hf:F d W ok A xs.length xs):V d e W base ok (.slice A xs.length c) xs:=⟨A,c,rfl,hl,hf⟩
theorem auA (h:V d e W base ok v xs):∃ A c,v=.slice A xs.length c:=by
 obtain ⟨A,c,hv,_⟩:=h
 exact ⟨A,c,hv⟩
theorem JE (h:V d e W base ok (.slice A n c) xs):n=xs.length∧n≤c∧F d W ok A xs.length xs:=by
 obtain ⟨A',c',hv,hl,hf⟩:=h
 injection hv with ha hn hc
 subst ha;subst hc
 exact ⟨hn,by rw [hn];exact hl,hf⟩
theorem gT (h:V d e W base ok (.slice A n c) xs):n=xs.length∧n≤c∧d.C W A xs.length xs:=⟨(JE h).1,(JE h).2.1,aaD (JE h).2.2⟩
theorem xX (d:Kd α) (e:Nat) (W:World) (base:Nat) (ok:Nat→Prop):V d e W base ok (.slice none 0 0) []:=⟨none,0,rfl,Nat.le_refl _,aaC d W ok⟩
theorem Ny (h:d.R e W base ok v xs):V d e W base' ok v xs:=by
 obtain ⟨A,c,rfl⟩:=b9 h
 exact ⟨A,c,rfl,(bD h).2.1,R_F h⟩
theorem FZ (h:Kd.S d e W base ok v xs):V d e W base' ok v xs:=Ny (auz h)
theorem bf (h:V d e W base ok v xs) (hok:∀ k,ok k→ok' k):V d e W base ok' v xs:=s9 h (fun _ hf=>DB hf hok)
theorem vR (h:V d e W base ok v xs) (_:base'≤base):V d e W base' ok v xs:=h
theorem avV (h:V d e W base ok v xs) (hb:Below W.heap.size W w1):V d e w1 base ok v xs:=s9 h (fun _ hf=>I7 hf hb)
theorem avU (h:V d e W base ok v xs) (o:Obj):V d e (W.alloc o) base ok v xs:=s9 h (fun _ hf=>aav hf o)
theorem vQ (h:V d e W base ok v xs):V d e W.drew base ok v xs:=s9 h (fun _ hf=>aaw hf)
theorem T6 (h:V d e W base ok v xs) (m:Nat):V d e (W.drewN m) base ok v xs:=s9 h (fun _ hf=>aax hf m)
theorem iO (h:V d e W base ok v xs) {p:Addr} (hok:∀ k,ok k→k ≠ p.block) (u:Value):V d e (W.setCell p u) base ok v xs:=s9 h (fun _ hf=>aaA hf hok u)
theorem nC (h:V d e W base ok v xs) (hk:bx W w1 g none) (hok:∀ k,ok k→k ≠ g):V d e w1 base ok v xs:=s9 h (fun _ hf=>Sf hf hk hok)
theorem acR (h:V d e W base (fun k=>ok k∧some k ≠ u.ownBlock) v xs) (hg:W.grownBy w1 u.ownBlock) (a_:v1.ownBlock=u.ownBlock∨∃ b,v1.ownBlock=some b∧W.heap.size≤b):V d e w1 base (fun k=>ok k∧some k ≠ v1.ownBlock) v xs:=s9 h (fun _ hf=>aau hf hg a_)
theorem JD (h:V d e W base (fun k=>ok k∧some k ≠ v.ownBlock) u xs) (hg:W.grownBy w1 v.ownBlock) (a_:v1.ownBlock=v.ownBlock∨∃ b,v1.ownBlock=some b∧W.heap.size≤b):V d e w1 base (fun k=>ok k∧some k ≠ v1.ownBlock) u xs:=acR h hg a_
theorem acS (h:V d e W base ok v xs) (hbase:∀ k,u.ownBlock=some k→W.heap.size≤k) (hb:Below W.heap.size W w1):V d e w1 base (fun k=>ok k∧some k ≠ u.ownBlock) v xs:=s9 h (fun _ hf=>aay hf hbase hb)
theorem acT (h:V d e W base ok v xs) (a:Nat) (ha:W.heap.size≤a):V d e W base (fun k=>ok k∧k ≠ a) v xs:=s9 h (fun _ hf=>aaz hf a ha)
theorem NB (h:V d e W base ok v xs) (hb:Below W.heap.size W w1):V d e w1 base (fun k=>ok k∧k < W.heap.size) v xs:=s9 h (fun _ hf=>aaE hf hb)
theorem acV (h:V d e W base (fun k=>ok k∧k ≠ g) v xs) (hk:bx W w1 g none):V d e w1 base (fun k=>ok k∧k < W.heap.size) v xs:=s9 h (fun _ hf=>aaF hf hk)
theorem avo (h:V d e w1 base (fun k=>ok k∧k < N') v xs) (hbase:∀ k,u.ownBlock=some k→N'≤k):V d e w1 base (fun k=>(ok k∧some k ≠ u.ownBlock)∧k < N') v xs:=s9 h (fun _ hf=>aaH hf hbase)
theorem aaG (h:F d W ok A xs.length xs) (hm:m≤xs.length):F d W ok A (xs.take m).length (xs.take m):=aaB h (fun _ hC=>aar hC hm)
theorem aao (h:V d e W base ok (.slice A n c) xs) (hok:∀ k,ok k→k ≠ g):∀ W',bx W W' g none→d.C W' A n xs:=fun W' hk=>by
 have h2:=gT (nC h hk hok)
 rw [h2.1]
 exact h2.2.2
theorem rY {M:Nat→Prop} (h:d.R e w1 W.heap.size ok v xs) (hle:w.heap.size≤W.heap.size) (hM:∀ k,w.heap.size≤k→M k):d.R e w1 W.heap.size (fun k=>M k∧ok k) v xs:=aH (ru h) (fun k hk=>⟨hM k (Nat.le_trans hle hk.2.1),hk.1⟩)
theorem F0 {M:Nat→Prop} (h:Kd.S d e w1 W.heap.size ok v xs) (hle:w.heap.size≤W.heap.size) (hM:∀ k,w.heap.size≤k→M k):Kd.S d e w1 W.heap.size (fun k=>M k∧ok k) v xs:=bQ (JA h) (fun k hk=>⟨hM k (Nat.le_trans hle hk.2.1),hk.1⟩)
end
end Kd
end Go.Proofs.bz.dI
/- Set with little white space, by a program. -/
