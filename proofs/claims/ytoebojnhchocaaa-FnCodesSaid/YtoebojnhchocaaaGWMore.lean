/- Words on rows, worlds and walks that the texts of one law use (chosen by a program out of the seat's printed words). No condition beyond each theorem's own. -/
import Derived.Test.YtoebojnhchocaaaGWWords
import Derived.Test.YtoebojnhchocaaaGWLast
import Derived.Test.YtoebojnhchocaaaGWWords
import Derived.Test.YtoebojnhchocaaaGWLast
import Derived.Test.YtoebojnhchocaaaGWApart
import Derived.Test.YtoebojnhchocaaaGWApart
import Derived.Test.YtoebojnhchocaaaGWWords
import Derived.Test.YtoebojnhchocaaaGWFoot
import Derived.Test.YtoebojnhchocaaaGWKept
import Derived.Test.YtoebojnhchocaaaGWN
namespace Go.Proofs.cx.lu
open Go.RowKit Go.Proofs.cx.fq
namespace Kd
open Go.Proofs.cx.fq.Kd
end Kd
namespace Kd
open Go.Proofs.cx.fq.Kd
end Kd
/-- 'max' and 'min' of two whole numbers. -/
theorem max2_int (k k':IntKind) (x y:Int):Builtin.max2 (.int k x) (.int k' y)=pure (.int k (if x < y then y else x)):=by simp only [Builtin.max2,gt_iff_lt]
theorem min2_int (k k':IntKind) (x y:Int):Builtin.min2 (.int k x) (.int k' y)=pure (.int k (if y < x then y else x)):=by simp only [Builtin.min2]
theorem max_two (ats:Array TypeId) (ty:TypeId) (a b:Value):Builtin.max_ ats ty #[a,b]=(Builtin.max2 a b >>= fun s=>pure s):=by simp only [Builtin.max_,List.foldlM_cons,List.foldlM_nil]
theorem min_two (ats:Array TypeId) (ty:TypeId) (a b:Value):Builtin.min_ ats ty #[a,b]=(Builtin.min2 a b >>= fun s=>pure s):=by simp only [Builtin.min_,List.foldlM_cons,List.foldlM_nil]
theorem max_three (ats:Array TypeId) (ty:TypeId) (a b c:Value):Builtin.max_ ats ty #[a,b,c]=(Builtin.max2 a b >>= fun s=>Builtin.max2 s c >>= fun s=>pure s):=by simp only [Builtin.max_,List.foldlM_cons,List.foldlM_nil]
theorem min_three (ats:Array TypeId) (ty:TypeId) (a b c:Value):Builtin.min_ ats ty #[a,b,c]=(Builtin.min2 a b >>= fun s=>Builtin.min2 s c >>= fun s=>pure s):=by simp only [Builtin.min_,List.foldlM_cons,List.foldlM_nil]
theorem max_four (ats:Array TypeId) (ty:TypeId) (a b c d:Value):Builtin.max_ ats ty #[a,b,c,d]=(Builtin.max2 a b >>= fun s=>Builtin.max2 s c >>= fun s=>Builtin.max2 s d >>= fun s=>pure s):=by simp only [Builtin.max_,List.foldlM_cons,List.foldlM_nil]
theorem min_four (ats:Array TypeId) (ty:TypeId) (a b c d:Value):Builtin.min_ ats ty #[a,b,c,d]=(Builtin.min2 a b >>= fun s=>Builtin.min2 s c >>= fun s=>Builtin.min2 s d >>= fun s=>pure s):=by simp only [Builtin.min_,List.foldlM_cons,List.foldlM_nil]
end Go.Proofs.cx.lu
namespace Go.Proofs.cx.fq
open Go.RowKit
section
variable {P:Program} {ops:Array Oper} {rest:List Oper} {o:Oper} {a:Act} {Q:Exit→Act→World→Prop} {W:World}
/-- The operation is a call of this function (a cheap look ahead of a dear step). -/
theorem bS {f:FuncId} {as:Array Operand} {ts:Array TypeId} (_ho:o.op=.call { callee:=.value (.func f),args:=as,argTypes:=ts }) (h:wpList P ops Q (o :: rest) a W):wpList P ops Q (o :: rest) a W:=h
/-- The operation is a builtin over these places. -/
theorem aoi {b:Builtin} {xs:Array Operand} {ts:Array TypeId} (_ho:o.op=.call { callee:=.builtin b,args:=xs,argTypes:=ts }) (h:wpList P ops Q (o :: rest) a W):wpList P ops Q (o :: rest) a W:=h
end
/-- It says x = x, and that is its use: 'rw [drewN_self w]' fails where the world was not drawn, and the row behind it is skipped. -/
theorem Pb (w:World) (n:Nat):w.drewN n=w.drewN n:=rfl
theorem Yw {W:World} {o:Obj} {a:Addr} {v:Value} (h:(W.alloc o).cell? a=some v) (hlt:a.block < W.heap.size):W.cell? a=some v:=(World.cell?_alloc_lt _ _ _ hlt).symm.trans h
/-- A cell of a block that an event leaves alone. -/
theorem uz {W w1:World} {row:Option Nat} (hg:W.grownBy w1 row) {a:Addr} {v:Value} (h:W.cell? a=some v) (hne:some a.block ≠ row):w1.cell? a=some v:=by
 have:=hg.block a.block (World.block_lt_of_cell? W a h) hne
 simpa [World.cell?,this] using h
namespace Kd
section
variable {α:Type} {d:Kd α} {e base:Nat} {ok:Nat→Prop} {W w1:World} {v:Value} {xs:List α}
/-- The same, told: its block is not that one. -/
theorem Ww (h:d.R e W base ok v xs) (hE:d.E=[]) {g:Nat} (hne:some g ≠ v.ownBlock):d.R e W base (fun k=>ok k∧k ≠ g) v xs :=
 aT (oB hE h) (fun k hk=>⟨h.1 k hk.symm,fun e_=>hne (by rw [← e_];exact hk)⟩)
end
section
variable {α:Type} {d:Kd α} {e base g n cap:Nat} {ok eN anX:Nat→Prop} {W:World} {xs:List α} {i:Int} {c:List Value}
/-- The place where an element's row comes back: its cells are there, and may be written. -/
theorem VI (h:H d e W base ok (.slice (some ⟨g,0,none⟩) n cap) xs i eN c) (h0:0≤i) (h1:i < n):(∀ j u,c[j]?=some u→W.cell? ⟨g,i.toNat * d.sz+j,none⟩=some u)∧∀ j,W.frozen? ⟨g,i.toNat * d.sz+j,none⟩=false:=by
 obtain ⟨rows,_,Dm,_,_,mP,_⟩:=HJ h h0 h1
 obtain ⟨_,_,_,_,hfr⟩:=H8 Dm [] i h0 h1
 exact ⟨mP,hfr⟩
theorem WM (hH : H d e W base ok (.slice (some ⟨g, 0, none⟩) n cap) xs i eN c) (h0 : 0 ≤ i) (h1 : i < n) {seg : List Value} {j : Nat} (hj : j + seg.length ≤ d.sz)
  {x':α} (hM:d.M W base anX x' (c.take j ++ seg ++ c.drop (j+seg.length))) (lG:∀ k,anX k→eN k) :
  S d e (W.setCells g (i.toNat * d.sz+j) seg) base ok (.slice (some ⟨g,0,none⟩) n cap) (xs.set i.toNat x')∧W.grownBy (W.setCells g (i.toNat * d.sz+j) seg) (some g) :=
 WL (uU:=fun _=>False) (VL hH (fun _ hk=>⟨hk,fun h=>h⟩)) h0 h1 hj hM (fun k hk=>.inl (lG k hk)) (fun _ hk=>hk.elim)
end
end Kd
end Go.Proofs.cx.fq
namespace Go.Proofs.cx.fq
open Go.RowKit
namespace Kd
/-- A row that is only read, told by its value: its form, its length, what it leads to (in ok). e and base say nothing; they make it as the others are. -/
def V {α:Type} (d:Kd α) (_e:Nat) (W:World) (_base:Nat) (ok:Nat→Prop) (v:Value) (xs:List α):Prop:=∃ A c,v=.slice A xs.length c∧xs.length≤c∧F d W ok A xs.length xs
section
variable {α β:Type} {d:Kd α} {e base base' n m c g N' lo hi:Nat} {ok ok' S:Nat→Prop} {w W w1:World} {A:Option Addr} {ad:Addr} {u v v1:Value} {xs:List α}
theorem rm (h:V d e W base ok v xs) (hF:∀ A,F d W ok A xs.length xs→F d w1 ok' A xs.length xs):V d e w1 base' ok' v xs:=by
 obtain ⟨A,c,hv,hl,hf⟩:=h
 exact ⟨A,c,hv,hl,hF A hf⟩
theorem BR (hl:xs.length≤c) (hf:F d W ok A xs.length xs):V d e W base ok (.slice A xs.length c) xs:=⟨A,c,rfl,hl,hf⟩
theorem nA (h:V d e W base ok v xs):∃ A c,v=.slice A xs.length c:=by
 obtain ⟨A,c,hv,_⟩:=h
 exact ⟨A,c,hv⟩
theorem BQ (h:V d e W base ok (.slice A n c) xs):n=xs.length∧n≤c∧F d W ok A xs.length xs:=by
 obtain ⟨A',c',hv,hl,hf⟩:=h
 injection hv with ha hn hc
 subst ha;subst hc
 exact ⟨hn,by rw [hn];exact hl,hf⟩
theorem cN (h:V d e W base ok (.slice A n c) xs):n=xs.length∧n≤c∧d.C W A xs.length xs:=⟨(BQ h).1,(BQ h).2.1,MY (BQ h).2.2⟩
theorem WN (h:V d e W base ok (.slice A n c) xs):F d W ok A n xs:=by
 obtain ⟨hn,_,hf⟩:=BQ h
 rw [hn]
 exact hf
theorem rY (d:Kd α) (e:Nat) (W:World) (base:Nat) (ok:Nat→Prop):V d e W base ok (.slice none 0 0) []:=⟨none,0,rfl,Nat.le_refl _,UP d W ok⟩
theorem N2 (h:d.R e W base ok v xs):V d e W base' ok v xs:=by
 obtain ⟨A,c,rfl⟩:=cK h
 exact ⟨A,c,rfl,(anT h).2.1,Ws h⟩
theorem z8 (h:Kd.S d e W base ok v xs):V d e W base' ok v xs:=N2 (ri h)
theorem anJ (h:V d e W base ok v xs) (hok:∀ k,ok k→ok' k):V d e W base ok' v xs:=rm h (fun _ hf=>zG hf hok)
theorem o5 (h:V d e W base ok v xs) (_:base'≤base):V d e W base' ok v xs:=h
theorem dz (h:V d e W base ok v xs) (hb:Below W.heap.size W w1):V d e w1 base ok v xs:=rm h (fun _ hf=>En hf hb)
theorem cW (h:V d e W base ok v xs) (o:Obj):V d e (W.alloc o) base ok v xs:=rm h (fun _ hf=>UH hf o)
theorem cV (h:V d e W base ok v xs):V d e W.drew base ok v xs:=rm h (fun _ hf=>UI hf)
theorem cX (h:V d e W base ok v xs) (m:Nat):V d e (W.drewN m) base ok v xs:=rm h (fun _ hf=>UJ hf m)
theorem bG (h:V d e W base ok v xs) {p:Addr} (hok:∀ k,ok k→k ≠ p.block) (u:Value):V d e (W.setCell p u) base ok v xs:=rm h (fun _ hf=>UM hf hok u)
theorem tC (h:V d e W base ok v xs) (hk:aM W w1 g none) (hok:∀ k,ok k→k ≠ g):V d e w1 base ok v xs:=rm h (fun _ hf=>MX hf hk hok)
theorem WO (h:V d e W base (fun k=>ok k∧some k ≠ u.ownBlock) v xs) (hg:W.grownBy w1 u.ownBlock) (bz:v1.ownBlock=u.ownBlock∨∃ b,v1.ownBlock=some b∧W.heap.size≤b):V d e w1 base (fun k=>ok k∧some k ≠ v1.ownBlock) v xs:=rm h (fun _ hf=>UG hf hg bz)
theorem tB (h:V d e W base (fun k=>ok k∧some k ≠ v.ownBlock) u xs) (hg:W.grownBy w1 v.ownBlock) (bz:v1.ownBlock=v.ownBlock∨∃ b,v1.ownBlock=some b∧W.heap.size≤b):V d e w1 base (fun k=>ok k∧some k ≠ v1.ownBlock) u xs:=WO h hg bz
theorem b8 (h:V d e W base ok v xs) (hbase:∀ k,u.ownBlock=some k→W.heap.size≤k) (hb:Below W.heap.size W w1):V d e w1 base (fun k=>ok k∧some k ≠ u.ownBlock) v xs:=rm h (fun _ hf=>UK hf hbase hb)
theorem ej (h:V d e W base ok v xs) (a:Nat) (ha:W.heap.size≤a):V d e W base (fun k=>ok k∧k ≠ a) v xs:=rm h (fun _ hf=>UL hf a ha)
theorem WQ (h:V d e W base (fun k=>ok k∧k ≠ g) v xs) (hk:aM W w1 g none):V d e w1 base (fun k=>ok k∧k < W.heap.size) v xs:=rm h (fun _ hf=>UQ hf hk)
theorem WR (h:V d e w1 base (fun k=>ok k∧k < N') v xs) (hbase:∀ k,u.ownBlock=some k→N'≤k):V d e w1 base (fun k=>(ok k∧some k ≠ u.ownBlock)∧k < N') v xs:=rm h (fun _ hf=>US hf hbase)
theorem EK (h : V d e W base ok (.slice (some ad) n c) xs) (z : α) (i : Int) (h0 : 0 ≤ i) (h1 : i < n) :
  ∃ cs,cs.length=d.sz∧FK d W ok (xs.getD i.toNat z) cs∧∀ j u,cs[j]?=some u→W.cell? (ad.add (i.toNat * d.sz+j))=some u:=by
 obtain ⟨Ih,cs,he,pz,hK,mP,_⟩:=UN (WN h) z i h0 h1
 injection he with he
 subst he
 exact ⟨cs,pz,hK,mP⟩
theorem UR (h:F d W ok A xs.length xs) (hm:m≤xs.length):F d W ok A (xs.take m).length (xs.take m):=UO h (fun _ hC=>MU hC hm)
/-- An element that is itself a row: its one cell. -/
theorem Em {l:List α} {cs:List Value} (h:FK (Kd.slice e d) W ok l cs):∃ A c,cs=[.slice A l.length c]∧l.length≤c∧F d W ok A l.length l:=by
 obtain ⟨A,c,rfl,hl,_⟩:=UD h
 refine ⟨A,c,rfl,hl,fun W' hW=>?_⟩
 obtain ⟨A',c',he,_,g'⟩:=h W' hW
 injection he with he _
 injection he with ha _ _
 rw [ha]
 exact g'
theorem BO {M:Nat→Prop} (h:d.R e w1 W.heap.size ok v xs) (hle:w.heap.size≤W.heap.size) (hM:∀ k,w.heap.size≤k→M k):d.R e w1 W.heap.size (fun k=>M k∧ok k) v xs:=aT (p4 h) (fun k hk=>⟨hM k (Nat.le_trans hle hk.2.1),hk.1⟩)
theorem Aa {M:Nat→Prop} (h:Kd.S d e w1 W.heap.size ok v xs) (hle:w.heap.size≤W.heap.size) (hM:∀ k,w.heap.size≤k→M k):Kd.S d e w1 W.heap.size (fun k=>M k∧ok k) v xs:=anW (Ie h) (fun k hk=>⟨hM k (Nat.le_trans hle hk.2.1),hk.1⟩)
end
end Kd
end Go.Proofs.cx.fq
/- Set with little white space, by a program. -/
