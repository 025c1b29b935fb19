/- Words on rows, worlds and walks that the texts of one law use (chosen by a program out of the seat's printed words). No condition beyond each theorem's own. -/
import Derived.Test.YtoebojnhchocaaaDWLast
import Derived.Test.YtoebojnhchocaaaDWWords
namespace Go.Proofs.bR.je
open Go.Proofs.bR.eC (au)
def Bs (md:Region.Mode) (o:Oper):List Nat:=(o.after.toList.filter (fun e=>Region.binds md e)).map (fun e=>e.on)
def Jp (md:Region.Mode) (ops:Array Oper) (i:Nat) (oi:Oper):List Nat:=(List.range ops.size).filter fun j=>!(j == i) && match ops[j]? with
 | some oj=>!(oj.after.any (fun e=>Region.binds md e && e.on == i) || oi.apart ops oj)
 | none=>false
/-- No select in it; for each operation: what must have come up before it, and what may not come up behind it if it is taken first. -/
def gv (md:Region.Mode) (ops:Array Oper):Bool × List (List Nat × List Nat):=(Region.noSelect ops,(List.range ops.size).map fun i=>match ops[i]? with
 | some o=>(Bs md o,Jp md ops i o)
 | none=>([],[]))
def xU (T:List (List Nat × List Nat)) (l:List Bool) (i:Nat):Bool:=!l.getD i true && match T[i]? with
 | some r=>r.1.all (fun j=>l.getD j false)
 | none=>false
def zA (T:List (List Nat × List Nat)) (l:List Bool):List Nat:=(List.range T.length).filter (xU T l)
def CE (T:List (List Nat × List Nat)) (l:List Bool) (i:Nat):Bool:=match T[i]? with
 | some r=>r.2.all (fun j=>l.getD j true)
 | none=>false
def Fz (T:List (List Nat × List Nat)) (l:List Bool):Bool:=(List.range T.length).all fun j=>!l.getD j false || match T[j]? with
 | some r=>r.1.all (fun k=>l.getD k false)
 | none=>true
def Bv (T : List (List Nat × List Nat)) (i : Nat) : Nat → Nat → Bool
 | 0,_=>false
 | fuel+1,d=>match T[d]? with
  | some r=>r.1.any fun j=>j == i || Bv T i fuel j
  | none=>false
def GB (T:List (List Nat × List Nat)) (l:List Bool) (ds:List Nat) (i:Nat):Bool:=ds.all fun d=>l.getD d true || Bv T i T.length d
section
variable {md:Region.Mode} {ops:Array Oper} {T:Bool × List (List Nat × List Nat)} {l l' li lj lk:Array Bool} {ds:List Nat} {i j k:Nat}
theorem gd (l:Array Bool) (j:Nat) (b:Bool):l.getD j b=l.toList.getD j b:=by simp [Array.getD_eq_getD_getElem?,List.getD_eq_getElem?_getD]
theorem SH (o:Oper) (p:Nat→Bool):o.after.all (fun e=>!Region.binds md e || p e.on)=(Bs md o).all p:=by
 unfold Bs
 rw [← Array.all_toList]
 induction o.after.toList with
 | nil=>rfl
 | cons e r ih =>
  rw [List.all_cons,ih,List.filter_cons]
  cases h:Region.binds md e<;>simp
theorem adH (o:Oper) (p:Nat→Bool):o.after.any (fun e=>Region.binds md e && p e.on)=(Bs md o).any p:=by
 unfold Bs
 rw [← Array.any_toList]
 induction o.after.toList with
 | nil=>rfl
 | cons e r ih =>
  rw [List.any_cons,ih,List.filter_cons]
  cases h:Region.binds md e<;>simp
theorem GY:(gv md ops).2.length=ops.size:=by simp [gv]
theorem G0 {o:Oper} (h:ops[i]?=some o):(gv md ops).2[i]?=some (Bs md o,Jp md ops i o):=by
 have hi:=(Array.getElem?_eq_some_iff.1 h).1
 unfold gv
 rw [List.getElem?_map,List.getElem?_range hi,Option.map_some,h]
theorem GZ (h:ops[i]?=none):(gv md ops).2[i]?=none:=by
 have hi:ops.size≤i:=Array.getElem?_eq_none_iff.1 h
 exact List.getElem?_eq_none (by rw [GY];exact hi)
theorem aej:xU (gv md ops).2 l.toList i=(!l.getD i true && ((ops[i]?).map (·.after.all fun e=>!Region.binds md e || l.getD e.on false)).getD false):=by
 unfold xU
 rw [gd]
 cases h:ops[i]? with
 | none=>rw [GZ h];rfl
 | some o =>
  rw [G0 h]
  simp only [Option.map_some,Option.getD_some]
  rw [← SH]
  simp only [gd]
theorem Er:Region.ready md ops l=zA (gv md ops).2 l.toList:=by
 unfold Region.ready zA
 rw [GY]
 refine List.filter_congr (fun i _=>?_)
 rw [aej]
theorem Pv:Region.free md ops l i=CE (gv md ops).2 l.toList i:=by
 unfold Region.free CE
 cases h:ops[i]? with
 | none=>rw [GZ h]
 | some oi =>
  rw [G0 h]
  simp only [Jp]
  rw [List.all_filter]
  congr 1
  funext j
  rw [gd]
  cases hj:ops[j]? with
  | none=>cases (j == i)<;>cases (l.toList.getD j true)<;>simp
  | some oj =>
   cases (j == i)<;>cases (l.toList.getD j true)<;>cases (oj.after.any (fun e=>Region.binds md e && e.on == i) || oi.apart ops oj)<;>simp_all
theorem X4:Region.Co md ops l=Fz (gv md ops).2 l.toList:=by
 unfold Region.Co Fz
 rw [GY]
 congr 1
 funext j
 rw [gd]
 cases h:ops[j]? with
 | none=>rw [GZ h]
 | some o =>
  rw [G0 h]
  simp only
  rw [← SH]
  simp only [gd]
theorem SY : ∀ (fuel d : Nat), Region.r_ md ops i fuel d = Bv (gv md ops).2 i fuel d
 | 0,_=>rfl
 | fuel+1,d=>by
  unfold Region.r_ Bv
  cases h:ops[d]? with
  | none=>rw [GZ h]
  | some o =>
   rw [G0 h]
   simp only
   rw [← adH]
   congr 1
   funext e
   rw [SY fuel]
theorem adr:Region.GA md ops l ds i=GB (gv md ops).2 l.toList ds i:=by
 unfold Region.GA GB
 rw [GY]
 congr 1
 funext d
 rw [gd,SY]
theorem S0 (h:xU T.2 l.toList i=true) (hT:gv md ops=T):(Region.ready md ops l).contains i=true:=by
 subst hT
 rw [Er]
 unfold zA
 rw [List.contains_iff_mem,List.mem_filter,List.mem_range]
 refine ⟨?_,h⟩
 unfold xU at h
 rw [Bool.and_eq_true] at h
 cases hq:(gv md ops).2[i]? with
 | none=>rw [hq] at h;simp at h
 | some r=>exact (List.getElem?_eq_some_iff.1 hq).1
theorem xX (h:(l.toList.set i true == l'.toList)=true):(l.setIfInBounds i true == l')=true:=by
 rw [beq_iff_eq] at h ⊢
 apply Array.ext'
 rw [Array.toList_setIfInBounds]
 exact h
def I7 (T:Bool × List (List Nat × List Nat)) (l l':List Bool) (i:Nat):Bool:=T.1 && CE T.2 l i && xU T.2 l i && (l.set i true == l')
/-- pure_'s condition out of the table. -/
theorem WS (hT:gv md ops=T) (h:I7 T l.toList l'.toList i=true):Fo md ops l l' i=true:=by
 simp only [I7,Bool.and_eq_true] at h
 obtain ⟨⟨⟨h1,h2⟩,h3⟩,h4⟩:=h
 have h5:=S0 h3 hT
 have h6:=xX h4
 subst hT
 simp only [Fo,Bool.and_eq_true]
 exact ⟨⟨⟨h1,by rw [Pv];exact h2⟩,h5⟩,h6⟩
def Mc (T:Bool × List (List Nat × List Nat)) (ds:List Nat) (l l':List Bool) (i:Nat):Bool:=T.1 && CE T.2 l i && xU T.2 l i && Fz T.2 l && GB T.2 l ds i && (l.set i true == l')
/-- take_'s. -/
theorem ae6 (hT:gv md ops=T) (h:Mc T ds l.toList l'.toList i=true):Ey md ops ds l l' i=true:=by
 simp only [Mc,Bool.and_eq_true] at h
 obtain ⟨⟨⟨⟨⟨h1,h2⟩,h3⟩,h4⟩,h5⟩,h6⟩:=h
 have h7:=S0 h3 hT
 have h8:=xX h6
 subst hT
 simp only [Ey,Bool.and_eq_true]
 exact ⟨⟨⟨⟨⟨h1,by rw [Pv];exact h2⟩,h7⟩,by rw [X4];exact h4⟩,by rw [adr];exact h5⟩,h8⟩
/-- one_'s and last_'s. -/
theorem kg (hT:gv md ops=T) (h:(zA T.2 l.toList == [i] && l.toList.set i true == l'.toList)=true):xV md ops l l' i=true:=by
 simp only [Bool.and_eq_true] at h
 obtain ⟨h1,h2⟩:=h
 subst hT
 simp only [xV,Bool.and_eq_true]
 exact ⟨by rw [Er];exact h1,xX h2⟩
theorem Bx (hT:gv md ops=T) (h:(zA T.2 l.toList == [i,j] && l.toList.set i true == li.toList && l.toList.set j true == lj.toList)=true):(Region.ready md ops l == [i,j] && l.setIfInBounds i true == li && l.setIfInBounds j true == lj)=true:=by
 simp only [Bool.and_eq_true] at h ⊢
 obtain ⟨⟨h1,h2⟩,h3⟩:=h
 subst hT
 exact ⟨⟨by rw [Er];exact h1,xX h2⟩,xX h3⟩
theorem Tk (hT : gv md ops = T) (h : (zA T.2 l.toList == [i, j, k] && l.toList.set i true == li.toList && l.toList.set j true == lj.toList && l.toList.set k true == lk.toList) = true) :
  (Region.ready md ops l == [i,j,k] && l.setIfInBounds i true == li && l.setIfInBounds j true == lj && l.setIfInBounds k true == lk)=true:=by
 simp only [Bool.and_eq_true] at h ⊢
 obtain ⟨⟨⟨h1,h2⟩,h3⟩,h4⟩:=h
 subst hT
 exact ⟨⟨⟨by rw [Er];exact h1,xX h2⟩,xX h3⟩,xX h4⟩
/-- done_'s. -/
theorem pN (hT:gv md ops=T) (h:(zA T.2 l.toList == [])=true):(Region.ready md ops l == [])=true:=by
 subst hT
 rw [Er]
 exact h
/-- What d waits for, as_ bits: told in the table (B), checked in one pass: each bit is a need of d, or a bit of an earlier need's. -/
def zD (B : List Nat) (d : Nat) : List Nat → Nat
 | []=>0
 | n :: r=>(2 ^ n ||| (if n < d then B.getD n 0 else 0)) ||| zD B d r
def mN (T:List (List Nat × List Nat)) (B:List Nat):Bool:=(List.range T.length).all fun d=>match T[d]? with
 | some r=>(B.getD d 0 ||| zD B d r.1) == zD B d r.1
 | none=>false
theorem Tn {B : List Nat} {d i : Nat} : ∀ {ns : List Nat}, (zD B d ns).testBit i = true → ∃ n ∈ ns, n = i ∨ (n < d ∧ (B.getD n 0).testBit i = true)
 | [],h=>by simp [zD] at h
 | n :: r,h=>by
  unfold zD at h
  rw [Nat.testBit_or,Nat.testBit_or,Bool.or_eq_true,Bool.or_eq_true] at h
  rcases h with (h|h)|h
  ·rw [Nat.testBit_two_pow] at h
   exact ⟨n,List.mem_cons_self,.inl (by simpa using h)⟩
  ·by_cases hn : n < d
   ·rw [if_pos hn] at h
    exact ⟨n,List.mem_cons_self,.inr ⟨hn,h⟩⟩
   ·rw [if_neg hn] at h
    simp at h
  ·obtain ⟨m, hm, h2⟩ := Tn h
   exact ⟨m,List.mem_cons_of_mem _ hm,h2⟩
theorem SX {T : List (List Nat × List Nat)} {B : List Nat} (hB : mN T B = true) : ∀ (fuel d : Nat), d < fuel → d < T.length → (B.getD d 0).testBit i = true → Bv T i fuel d = true
 | 0,d,h,_,_=>by omega
 | fuel+1,d,h,hd,hb=>by
  have h1:=List.all_eq_true.1 hB d (List.mem_range.2 hd)
  cases hr:T[d]? with
  | none=>rw [hr] at h1;simp at h1
  | some r =>
   rw [hr] at h1
   simp only [beq_iff_eq] at h1
   have h2:(zD B d r.1).testBit i=true:=by rw [← h1,Nat.testBit_or,hb,Bool.true_or]
   obtain ⟨n,hn,h3⟩:=Tn h2
   unfold Bv
   rw [hr]
   simp only
   rw [List.any_eq_true]
   refine ⟨n,hn,?_⟩
   rcases h3 with rfl|⟨h4,h5⟩
   ·simp
   ·rw [SX hB fuel n (by omega) (by omega) h5,Bool.or_true]
def Su (T:List (List Nat × List Nat)) (B:List Nat) (l:List Bool) (ds:List Nat) (i:Nat):Bool:=ds.all fun d=>l.getD d true || (decide (d < T.length) && (B.getD d 0).testBit i)
def Md (T:Bool × List (List Nat × List Nat)) (B:List Nat) (ds:List Nat) (l l':List Bool) (i:Nat):Bool:=T.1 && CE T.2 l i && xU T.2 l i && Fz T.2 l && Su T.2 B l ds i && (l.set i true == l')
/-- take_'s, by the bits. -/
theorem ae7 {B:List Nat} (hT:gv md ops=T) (hB:mN T.2 B=true) (h:Md T B ds l.toList l'.toList i=true):Ey md ops ds l l' i=true:=by
 refine ae6 hT ?_
 simp only [Md,Mc,Bool.and_eq_true] at h ⊢
 obtain ⟨⟨⟨⟨⟨h1,h2⟩,h3⟩,h4⟩,h5⟩,h6⟩:=h
 refine ⟨⟨⟨⟨⟨h1,h2⟩,h3⟩,h4⟩,?_⟩,h6⟩
 unfold Su at h5
 unfold GB
 rw [List.all_eq_true] at h5 ⊢
 intro d hd
 have h7:=h5 d hd
 rw [Bool.or_eq_true,Bool.and_eq_true,decide_eq_true_eq] at h7
 rcases h7 with h7|⟨h8,h9⟩
 ·rw [h7,Bool.true_or]
 ·rw [SX hB _ d h8 h8 h9,Bool.or_true]
theorem pW {P:Program} {Q:Exit→Act→World→Prop} {S:World→Prop} {n:Nat} {a:Act} {w:World} {B:List Nat} (hT:gv md ops=T) (hB:mN T.2 B=true) (h:au (gv md ops=T)→au (mN T.2 B=true)→eN P md ops Q S ds n l a w):eN P md ops Q S ds n l a w:=h ⟨hT⟩ ⟨hB⟩
end
/-- The operations of a region, by its number. -/
def uO : Code → Nat → Option (Array Oper)
 | .region id ops _,k=>if id == k then some ops else none
 | .seq a b,k=>match uO a k with
  | some o=>some o
  | none=>uO b k
 | .cond _ a b,k=>match uO a k with
  | some o=>some o
  | none=>uO b k
 | .block _ c,k=>uO c k
 | .loop c,k=>uO c k
 | .scope c,k=>uO c k
 | .rangeFunc _ _ a b,k=>match uO a k with
  | some o=>some o
  | none=>uO b k
 | _,_=>none
def opsOf (f:Func) (k:Nat):Array Oper:=((f.body.bind fun c=>uO c k)).getD #[]
end Go.Proofs.bR.je
/- Set with little white space, by a program. -/
