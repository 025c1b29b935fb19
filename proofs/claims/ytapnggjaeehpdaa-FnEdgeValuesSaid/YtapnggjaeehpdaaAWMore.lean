/- Words on rows, worlds and walks that the texts of one law use (chosen by a program out of the seat's printed words). No condition beyond each theorem's own. -/
import Derived.Test.YtapnggjaeehpdaaAWWords
import Derived.Test.YtapnggjaeehpdaaAWLast
import Derived.Test.YtapnggjaeehpdaaAWWords
import Derived.Test.YtapnggjaeehpdaaAWLast
import Derived.Test.YtapnggjaeehpdaaAWApart
import Derived.Test.YtapnggjaeehpdaaAWApart
import Derived.Test.YtapnggjaeehpdaaAWWords
import Derived.Test.YtapnggjaeehpdaaAWFoot
import Derived.Test.YtapnggjaeehpdaaAWKept
import Derived.Test.YtapnggjaeehpdaaAWNEv
namespace Go.Proofs.bB.jd
open Go.RowKit Go.Proofs.bB.dI
namespace Kd
open Go.Proofs.bB.dI.Kd
end Kd
namespace Kd
open Go.Proofs.bB.dI.Kd
end Kd
/-- 'max' and 'min' of two whole numbers. -/
theorem max2_int (k k':IntKind) (x y:Int):Builtin.max2 (.int k x) (.int k' y)=pure (.int k (if x < y then y else x)):=by simp only [Builtin.max2,gt_iff_lt]
theorem min2_int (k k':IntKind) (x y:Int):Builtin.min2 (.int k x) (.int k' y)=pure (.int k (if y < x then y else x)):=by simp only [Builtin.min2]
theorem max_two (ats:Array TypeId) (ty:TypeId) (a b:Value):Builtin.max_ ats ty #[a,b]=(Builtin.max2 a b >>= fun s=>pure s):=by simp only [Builtin.max_,List.foldlM_cons,List.foldlM_nil]
theorem min_two (ats:Array TypeId) (ty:TypeId) (a b:Value):Builtin.min_ ats ty #[a,b]=(Builtin.min2 a b >>= fun s=>pure s):=by simp only [Builtin.min_,List.foldlM_cons,List.foldlM_nil]
theorem max_three (ats:Array TypeId) (ty:TypeId) (a b c:Value):Builtin.max_ ats ty #[a,b,c]=(Builtin.max2 a b >>= fun s=>Builtin.max2 s c >>= fun s=>pure s):=by simp only [Builtin.max_,List.foldlM_cons,List.foldlM_nil]
theorem min_three (ats:Array TypeId) (ty:TypeId) (a b c:Value):Builtin.min_ ats ty #[a,b,c]=(Builtin.min2 a b >>= fun s=>Builtin.min2 s c >>= fun s=>pure s):=by simp only [Builtin.min_,List.foldlM_cons,List.foldlM_nil]
theorem max_four (ats:Array TypeId) (ty:TypeId) (a b c d:Value):Builtin.max_ ats ty #[a,b,c,d]=(Builtin.max2 a b >>= fun s=>Builtin.max2 s c >>= fun s=>Builtin.max2 s d >>= fun s=>pure s):=by simp only [Builtin.max_,List.foldlM_cons,List.foldlM_nil]
theorem min_four (ats:Array TypeId) (ty:TypeId) (a b c d:Value):Builtin.min_ ats ty #[a,b,c,d]=(Builtin.min2 a b >>= fun s=>Builtin.min2 s c >>= fun s=>Builtin.min2 s d >>= fun s=>pure s):=by simp only [Builtin.min_,List.foldlM_cons,List.foldlM_nil]
end Go.Proofs.bB.jd
namespace Go.Proofs.bB.dI
open Go.RowKit
section
variable {P:Program} {ops:Array Oper} {rest:List Oper} {o:Oper} {a:Act} {Q:Exit→Act→World→Prop} {W:World}
/-- The operation is a call of this function (a cheap look ahead of a dear step). -/
theorem aqz {f:FuncId} {as:Array Operand} {ts:Array TypeId} (_ho:o.op=.call { callee:=.value (.func f),args:=as,argTypes:=ts }) (h:wpList P ops Q (o :: rest) a W):wpList P ops Q (o :: rest) a W:=h
/-- The operation is a builtin over these places. -/
theorem ars {b:Builtin} {xs:Array Operand} {ts:Array TypeId} (_ho:o.op=.call { callee:=.builtin b,args:=xs,argTypes:=ts }) (h:wpList P ops Q (o :: rest) a W):wpList P ops Q (o :: rest) a W:=h
end
/-- The greater of two whole numbers, as Go's max tells it. -/
def mx (a b:Int):Int:=if a < b then b else a
/-- It says x = x, and that is its use: 'rw [drewN_self w]' fails where the world was not drawn, and the row behind it is skipped. -/
theorem Hx (w:World) (n:Nat):w.drewN n=w.drewN n:=rfl
theorem adt {W:World} {o:Obj} {a:Addr} {v:Value} (h:(W.alloc o).cell? a=some v) (hlt:a.block < W.heap.size):W.cell? a=some v:=(World.cell?_alloc_lt _ _ _ hlt).symm.trans h
/-- A cell of a block that an event leaves alone. -/
theorem r8 {W w1:World} {row:Option Nat} (hg:W.grownBy w1 row) {a:Addr} {v:Value} (h:W.cell? a=some v) (hne:some a.block ≠ row):w1.cell? a=some v:=by
 have:=hg.block a.block (World.block_lt_of_cell? W a h) hne
 simpa [World.cell?,this] using h
namespace Kd
section
variable {α:Type} {d:Kd α} {e base:Nat} {ok:Nat→Prop} {W w1:World} {v:Value} {xs:List α}
/-- The same, told: its block is not that one. -/
theorem abc (h:d.R e W base ok v xs) (hE:d.E=[]) {g:Nat} (hne:some g ≠ v.ownBlock):d.R e W base (fun k=>ok k∧k ≠ g) v xs :=
 aqM (oV hE h) (fun k hk=>⟨h.1 k hk.symm,fun e_=>hne (by rw [← e_];exact hk)⟩)
end
section
variable {α:Type} {d:Kd α} {e base g n cap:Nat} {ok dP bw:Nat→Prop} {W:World} {xs:List α} {i:Int} {c:List Value}
/-- The place where an element's row comes back: its cells are there, and may be written. -/
theorem ZV (h:H d e W base ok (.slice (some ⟨g,0,none⟩) n cap) xs i dP c) (h0:0≤i) (h1:i < n):(∀ j u,c[j]?=some u→W.cell? ⟨g,i.toNat * d.sz+j,none⟩=some u)∧∀ j,W.frozen? ⟨g,i.toNat * d.sz+j,none⟩=false:=by
 obtain ⟨rows,_,wT,_,_,o7,_⟩:=KJ h h0 h1
 obtain ⟨_,_,_,_,hfr⟩:=DB wT [] i h0 h1
 exact ⟨o7,hfr⟩
theorem abk (hH : H d e W base ok (.slice (some ⟨g, 0, none⟩) n cap) xs i dP c) (h0 : 0 ≤ i) (h1 : i < n) {seg : List Value} {j : Nat} (hj : j + seg.length ≤ d.sz)
  {x':α} (hM:d.M W base bw x' (c.take j ++ seg ++ c.drop (j+seg.length))) (kr:∀ k,bw k→dP k) :
  S d e (W.setCells g (i.toNat * d.sz+j) seg) base ok (.slice (some ⟨g,0,none⟩) n cap) (xs.set i.toNat x')∧W.grownBy (W.setCells g (i.toNat * d.sz+j) seg) (some g) :=
 abj (ast:=fun _=>False) (ZY hH (fun _ hk=>⟨hk,fun h=>h⟩)) h0 h1 hj hM (fun k hk=>.inl (kr k hk)) (fun _ hk=>hk.elim)
end
end Kd
end Go.Proofs.bB.dI
namespace Go.Proofs.bB.dI
open Go.RowKit
namespace Kd
/-- A row that is only read, told by its value: its form, its length, what it leads to (in ok). e and base say nothing; they make it as the others are. -/
def V {α:Type} (d:Kd α) (_e:Nat) (W:World) (_base:Nat) (ok:Nat→Prop) (v:Value) (xs:List α):Prop:=∃ A c,v=.slice A xs.length c∧xs.length≤c∧F d W ok A xs.length xs
section
variable {α β:Type} {d:Kd α} {e base base' n m c g N' lo hi:Nat} {ok ok' S:Nat→Prop} {w W w1:World} {A:Option Addr} {ad:Addr} {u v v1:Value} {xs:List α}
theorem vM (h:V d e W base ok v xs) (hF:∀ A,F d W ok A xs.length xs→F d w1 ok' A xs.length xs):V d e w1 base' ok' v xs:=by
 obtain ⟨A,c,hv,hl,hf⟩:=h
 exact ⟨A,c,hv,hl,hF A hf⟩
theorem abp (hl:xs.length≤c) (hf:F d W ok A xs.length xs):V d e W base ok (.slice A xs.length c) xs:=⟨A,c,rfl,hl,hf⟩
theorem arO (h:V d e W base ok v xs):∃ A c,v=.slice A xs.length c:=by
 obtain ⟨A,c,hv,_⟩:=h
 exact ⟨A,c,hv⟩
theorem GY (h:V d e W base ok (.slice A n c) xs):n=xs.length∧n≤c∧F d W ok A xs.length xs:=by
 obtain ⟨A',c',hv,hl,hf⟩:=h
 injection hv with ha hn hc
 subst ha;subst hc
 exact ⟨hn,by rw [hn];exact hl,hf⟩
theorem cI (h:V d e W base ok (.slice A n c) xs):n=xs.length∧n≤c∧d.C W A xs.length xs:=⟨(GY h).1,(GY h).2.1,YM (GY h).2.2⟩
theorem s6 (d:Kd α) (e:Nat) (W:World) (base:Nat) (ok:Nat→Prop):V d e W base ok (.slice none 0 0) []:=⟨none,0,rfl,Nat.le_refl _,YL d W ok⟩
theorem Q4 (h:d.R e W base ok v xs):V d e W base' ok v xs:=by
 obtain ⟨A,c,rfl⟩:=cy h
 exact ⟨A,c,rfl,(aqP h).2.1,Q2 h⟩
theorem DF (h:Kd.S d e W base ok v xs):V d e W base' ok v xs:=Q4 (qH h)
theorem aZ (h:V d e W base ok v xs) (hok:∀ k,ok k→ok' k):V d e W base ok' v xs:=vM h (fun _ hf=>C9 hf hok)
theorem p_ (h:V d e W base ok v xs) (_:base'≤base):V d e W base' ok v xs:=h
theorem Ru (h:V d e W base ok v xs) (hb:Below W.heap.size W w1):V d e w1 base ok v xs:=vM h (fun _ hf=>Gu hf hb)
theorem Rt (h:V d e W base ok v xs) (o:Obj):V d e (W.alloc o) base ok v xs:=vM h (fun _ hf=>PA hf o)
theorem lG (h:V d e W base ok v xs):V d e W.drew base ok v xs:=vM h (fun _ hf=>PC hf)
theorem Rv (h:V d e W base ok v xs) (m:Nat):V d e (W.drewN m) base ok v xs:=vM h (fun _ hf=>PD hf m)
theorem je (h:V d e W base ok v xs) {p:Addr} (hok:∀ k,ok k→k ≠ p.block) (u:Value):V d e (W.setCell p u) base ok v xs:=vM h (fun _ hf=>YJ hf hok u)
theorem lY (h:V d e W base ok v xs) (hk:aqB W w1 g none) (hok:∀ k,ok k→k ≠ g):V d e w1 base ok v xs:=vM h (fun _ hf=>YK hf hk hok)
theorem abl (h:V d e W base (fun k=>ok k∧some k ≠ u.ownBlock) v xs) (hg:W.grownBy w1 u.ownBlock) (bg:v1.ownBlock=u.ownBlock∨∃ b,v1.ownBlock=some b∧W.heap.size≤b):V d e w1 base (fun k=>ok k∧some k ≠ v1.ownBlock) v xs:=vM h (fun _ hf=>YF hf hg bg)
theorem abm (h:V d e W base (fun k=>ok k∧some k ≠ v.ownBlock) u xs) (hg:W.grownBy w1 v.ownBlock) (bg:v1.ownBlock=v.ownBlock∨∃ b,v1.ownBlock=some b∧W.heap.size≤b):V d e w1 base (fun k=>ok k∧some k ≠ v1.ownBlock) u xs:=abl h hg bg
theorem abn (h:V d e W base ok v xs) (hbase:∀ k,u.ownBlock=some k→W.heap.size≤k) (hb:Below W.heap.size W w1):V d e w1 base (fun k=>ok k∧some k ≠ u.ownBlock) v xs:=vM h (fun _ hf=>YH hf hbase hb)
theorem abo (h:V d e W base ok v xs) (a:Nat) (ha:W.heap.size≤a):V d e W base (fun k=>ok k∧k ≠ a) v xs:=vM h (fun _ hf=>YI hf a ha)
theorem YN (h:F d W ok A xs.length xs) (hm:m≤xs.length):F d W ok A (xs.take m).length (xs.take m):=PE h (fun _ hC=>Yz hC hm)
theorem YG (h:F d W ok A xs.length xs) (hm:m≤xs.length) (hc:xs.length≤c):F d W ok (if c=m then A else A.map (·.add (m * d.sz))) (xs.drop m).length (xs.drop m):=PE h (fun _ hC=>C7 hC hm hc)
theorem YE {l:List α} (hl:l.length≤c) (hf:F d W ok A l.length l):FK (Kd.slice e d) W ok l [.slice A l.length c]:=fun W' hW=>⟨A,c,rfl,hl,hf W' hW⟩
theorem BK {M:Nat→Prop} (h:d.R e w1 W.heap.size ok v xs) (hle:w.heap.size≤W.heap.size) (hM:∀ k,w.heap.size≤k→M k):d.R e w1 W.heap.size (fun k=>M k∧ok k) v xs:=aqM (ar7 h) (fun k hk=>⟨hM k (Nat.le_trans hle hk.2.1),hk.1⟩)
theorem DG {M:Nat→Prop} (h:Kd.S d e w1 W.heap.size ok v xs) (hle:w.heap.size≤W.heap.size) (hM:∀ k,w.heap.size≤k→M k):Kd.S d e w1 W.heap.size (fun k=>M k∧ok k) v xs:=b6 (Rd h) (fun k hk=>⟨hM k (Nat.le_trans hle hk.2.1),hk.1⟩)
end
end Kd
end Go.Proofs.bB.dI
/- Set with little white space, by a program. -/
