/- Words on rows, worlds and walks that the texts of one law use (chosen by a program out of the seat's printed words). No condition beyond each theorem's own. -/
import Derived.Test.YtoebojnhchocaaaCWLast
import Derived.Test.YtoebojnhchocaaaCWWords
namespace Go.Proofs.bI.je
open Go.Proofs.bI.en (au)
def AM (md:Region.Mode) (o:Oper):List Nat:=(o.after.toList.filter (fun e=>Region.binds md e)).map (fun e=>e.on)
def Ig (md:Region.Mode) (ops:Array Oper) (i:Nat) (oi:Oper):List Nat:=(List.range ops.size).filter fun j=>!(j == i) && match ops[j]? with
 | some oj=>!(oj.after.any (fun e=>Region.binds md e && e.on == i) || oi.apart ops oj)
 | none=>false
/-- No select in it; for each operation: what must have come up before it, and what may not come up behind it if it is taken first. -/
def gF (md:Region.Mode) (ops:Array Oper):Bool × List (List Nat × List Nat):=(Region.noSelect ops,(List.range ops.size).map fun i=>match ops[i]? with
 | some o=>(AM md o,Ig md ops i o)
 | none=>([],[]))
def xA (T:List (List Nat × List Nat)) (l:List Bool) (i:Nat):Bool:=!l.getD i true && match T[i]? with
 | some r=>r.1.all (fun j=>l.getD j false)
 | none=>false
def zl (T:List (List Nat × List Nat)) (l:List Bool):List Nat:=(List.range T.length).filter (xA T l)
def BR (T:List (List Nat × List Nat)) (l:List Bool) (i:Nat):Bool:=match T[i]? with
 | some r=>r.2.all (fun j=>l.getD j true)
 | none=>false
def EF (T:List (List Nat × List Nat)) (l:List Bool):Bool:=(List.range T.length).all fun j=>!l.getD j false || match T[j]? with
 | some r=>r.1.all (fun k=>l.getD k false)
 | none=>true
def AQ (T : List (List Nat × List Nat)) (i : Nat) : Nat → Nat → Bool
 | 0,_=>false
 | fuel+1,d=>match T[d]? with
  | some r=>r.1.any fun j=>j == i || AQ T i fuel j
  | none=>false
def FO (T:List (List Nat × List Nat)) (l:List Bool) (ds:List Nat) (i:Nat):Bool:=ds.all fun d=>l.getD d true || AQ T i T.length d
section
variable {md:Region.Mode} {ops:Array Oper} {T:Bool × List (List Nat × List Nat)} {l l' li lj lk:Array Bool} {ds:List Nat} {i j k:Nat}
theorem gd (l:Array Bool) (j:Nat) (b:Bool):l.getD j b=l.toList.getD j b:=by simp [Array.getD_eq_getD_getElem?,List.getD_eq_getElem?_getD]
theorem RL (o:Oper) (p:Nat→Bool):o.after.all (fun e=>!Region.binds md e || p e.on)=(AM md o).all p:=by
 unfold AM
 rw [← Array.all_toList]
 induction o.after.toList with
 | nil=>rfl
 | cons e r ih =>
  rw [List.all_cons,ih,List.filter_cons]
  cases h:Region.binds md e<;>simp
theorem ac6 (o:Oper) (p:Nat→Bool):o.after.any (fun e=>Region.binds md e && p e.on)=(AM md o).any p:=by
 unfold AM
 rw [← Array.any_toList]
 induction o.after.toList with
 | nil=>rfl
 | cons e r ih =>
  rw [List.any_cons,ih,List.filter_cons]
  cases h:Region.binds md e<;>simp
theorem Gb:(gF md ops).2.length=ops.size:=by simp [gF]
theorem Gd {o:Oper} (h:ops[i]?=some o):(gF md ops).2[i]?=some (AM md o,Ig md ops i o):=by
 have hi:=(Array.getElem?_eq_some_iff.1 h).1
 unfold gF
 rw [List.getElem?_map,List.getElem?_range hi,Option.map_some,h]
theorem Gc (h:ops[i]?=none):(gF md ops).2[i]?=none:=by
 have hi:ops.size≤i:=Array.getElem?_eq_none_iff.1 h
 exact List.getElem?_eq_none (by rw [Gb];exact hi)
theorem adC:xA (gF md ops).2 l.toList i=(!l.getD i true && ((ops[i]?).map (·.after.all fun e=>!Region.binds md e || l.getD e.on false)).getD false):=by
 unfold xA
 rw [gd]
 cases h:ops[i]? with
 | none=>rw [Gc h];rfl
 | some o =>
  rw [Gd h]
  simp only [Option.map_some,Option.getD_some]
  rw [← RL]
  simp only [gd]
theorem DD:Region.ready md ops l=zl (gF md ops).2 l.toList:=by
 unfold Region.ready zl
 rw [Gb]
 refine List.filter_congr (fun i _=>?_)
 rw [adC]
theorem Oh:Region.free md ops l i=BR (gF md ops).2 l.toList i:=by
 unfold Region.free BR
 cases h:ops[i]? with
 | none=>rw [Gc h]
 | some oi =>
  rw [Gd h]
  simp only [Ig]
  rw [List.all_filter]
  congr 1
  funext j
  rw [gd]
  cases hj:ops[j]? with
  | none=>cases (j == i)<;>cases (l.toList.getD j true)<;>simp
  | some oj =>
   cases (j == i)<;>cases (l.toList.getD j true)<;>cases (oj.after.any (fun e=>Region.binds md e && e.on == i) || oi.apart ops oj)<;>simp_all
theorem W7:Region.BH md ops l=EF (gF md ops).2 l.toList:=by
 unfold Region.BH EF
 rw [Gb]
 congr 1
 funext j
 rw [gd]
 cases h:ops[j]? with
 | none=>rw [Gc h]
 | some o =>
  rw [Gd h]
  simp only
  rw [← RL]
  simp only [gd]
theorem R2 : ∀ (fuel d : Nat), Region.rV md ops i fuel d = AQ (gF md ops).2 i fuel d
 | 0,_=>rfl
 | fuel+1,d=>by
  unfold Region.rV AQ
  cases h:ops[d]? with
  | none=>rw [Gc h]
  | some o =>
   rw [Gd h]
   simp only
   rw [← ac6]
   congr 1
   funext e
   rw [R2 fuel]
theorem acQ:Region.FN md ops l ds i=FO (gF md ops).2 l.toList ds i:=by
 unfold Region.FN FO
 rw [Gb]
 congr 1
 funext d
 rw [gd,R2]
theorem R4 (h:xA T.2 l.toList i=true) (hT:gF md ops=T):(Region.ready md ops l).contains i=true:=by
 subst hT
 rw [DD]
 unfold zl
 rw [List.contains_iff_mem,List.mem_filter,List.mem_range]
 refine ⟨?_,h⟩
 unfold xA at h
 rw [Bool.and_eq_true] at h
 cases hq:(gF md ops).2[i]? with
 | none=>rw [hq] at h;simp at h
 | some r=>exact (List.getElem?_eq_some_iff.1 hq).1
theorem xD (h:(l.toList.set i true == l'.toList)=true):(l.setIfInBounds i true == l')=true:=by
 rw [beq_iff_eq] at h ⊢
 apply Array.ext'
 rw [Array.toList_setIfInBounds]
 exact h
def amN (T:Bool × List (List Nat × List Nat)) (l l':List Bool) (i:Nat):Bool:=T.1 && BR T.2 l i && xA T.2 l i && (l.set i true == l')
/-- pure_'s condition out of the table. -/
theorem VP (hT:gF md ops=T) (h:amN T l.toList l'.toList i=true):Eu md ops l l' i=true:=by
 simp only [amN,Bool.and_eq_true] at h
 obtain ⟨⟨⟨h1,h2⟩,h3⟩,h4⟩:=h
 have h5:=R4 h3 hT
 have h6:=xD h4
 subst hT
 simp only [Eu,Bool.and_eq_true]
 exact ⟨⟨⟨h1,by rw [Oh];exact h2⟩,h5⟩,h6⟩
def La (T:Bool × List (List Nat × List Nat)) (ds:List Nat) (l l':List Bool) (i:Nat):Bool:=T.1 && BR T.2 l i && xA T.2 l i && EF T.2 l && FO T.2 l ds i && (l.set i true == l')
/-- take_'s. -/
theorem aem (hT:gF md ops=T) (h:La T ds l.toList l'.toList i=true):DK md ops ds l l' i=true:=by
 simp only [La,Bool.and_eq_true] at h
 obtain ⟨⟨⟨⟨⟨h1,h2⟩,h3⟩,h4⟩,h5⟩,h6⟩:=h
 have h7:=R4 h3 hT
 have h8:=xD h6
 subst hT
 simp only [DK,Bool.and_eq_true]
 exact ⟨⟨⟨⟨⟨h1,by rw [Oh];exact h2⟩,h7⟩,by rw [W7];exact h4⟩,by rw [acQ];exact h5⟩,h8⟩
/-- one_'s and last_'s. -/
theorem kF (hT:gF md ops=T) (h:(zl T.2 l.toList == [i] && l.toList.set i true == l'.toList)=true):xB md ops l l' i=true:=by
 simp only [Bool.and_eq_true] at h
 obtain ⟨h1,h2⟩:=h
 subst hT
 simp only [xB,Bool.and_eq_true]
 exact ⟨by rw [DD];exact h1,xD h2⟩
theorem DM (hT:gF md ops=T) (h:(zl T.2 l.toList == [i,j] && l.toList.set i true == li.toList && l.toList.set j true == lj.toList)=true):(Region.ready md ops l == [i,j] && l.setIfInBounds i true == li && l.setIfInBounds j true == lj)=true:=by
 simp only [Bool.and_eq_true] at h ⊢
 obtain ⟨⟨h1,h2⟩,h3⟩:=h
 subst hT
 exact ⟨⟨by rw [DD];exact h1,xD h2⟩,xD h3⟩
theorem Si (hT : gF md ops = T) (h : (zl T.2 l.toList == [i, j, k] && l.toList.set i true == li.toList && l.toList.set j true == lj.toList && l.toList.set k true == lk.toList) = true) :
  (Region.ready md ops l == [i,j,k] && l.setIfInBounds i true == li && l.setIfInBounds j true == lj && l.setIfInBounds k true == lk)=true:=by
 simp only [Bool.and_eq_true] at h ⊢
 obtain ⟨⟨⟨h1,h2⟩,h3⟩,h4⟩:=h
 subst hT
 exact ⟨⟨⟨by rw [DD];exact h1,xD h2⟩,xD h3⟩,xD h4⟩
/-- done_'s. -/
theorem p_ (hT:gF md ops=T) (h:(zl T.2 l.toList == [])=true):(Region.ready md ops l == [])=true:=by
 subst hT
 rw [DD]
 exact h
/-- What d waits for, as_ bits: told in the table (B), checked in one pass: each bit is a need of d, or a bit of an earlier need's. -/
def zn (B : List Nat) (d : Nat) : List Nat → Nat
 | []=>0
 | n :: r=>(2 ^ n ||| (if n < d then B.getD n 0 else 0)) ||| zn B d r
def akZ (T:List (List Nat × List Nat)) (B:List Nat):Bool:=(List.range T.length).all fun d=>match T[d]? with
 | some r=>(B.getD d 0 ||| zn B d r.1) == zn B d r.1
 | none=>false
theorem Sk {B : List Nat} {d i : Nat} : ∀ {ns : List Nat}, (zn B d ns).testBit i = true → ∃ n ∈ ns, n = i ∨ (n < d ∧ (B.getD n 0).testBit i = true)
 | [],h=>by simp [zn] at h
 | n :: r,h=>by
  unfold zn at h
  rw [Nat.testBit_or,Nat.testBit_or,Bool.or_eq_true,Bool.or_eq_true] at h
  rcases h with (h|h)|h
  ·rw [Nat.testBit_two_pow] at h
   exact ⟨n,List.mem_cons_self,.inl (by simpa using h)⟩
  ·by_cases hn : n < d
   ·rw [if_pos hn] at h
    exact ⟨n,List.mem_cons_self,.inr ⟨hn,h⟩⟩
   ·rw [if_neg hn] at h
    simp at h
  ·obtain ⟨m, hm, h2⟩ := Sk h
   exact ⟨m,List.mem_cons_of_mem _ hm,h2⟩
theorem R1 {T : List (List Nat × List Nat)} {B : List Nat} (hB : akZ T B = true) : ∀ (fuel d : Nat), d < fuel → d < T.length → (B.getD d 0).testBit i = true → AQ T i fuel d = true
 | 0,d,h,_,_=>by omega
 | fuel+1,d,h,hd,hb=>by
  have h1:=List.all_eq_true.1 hB d (List.mem_range.2 hd)
  cases hr:T[d]? with
  | none=>rw [hr] at h1;simp at h1
  | some r =>
   rw [hr] at h1
   simp only [beq_iff_eq] at h1
   have h2:(zn B d r.1).testBit i=true:=by rw [← h1,Nat.testBit_or,hb,Bool.true_or]
   obtain ⟨n,hn,h3⟩:=Sk h2
   unfold AQ
   rw [hr]
   simp only
   rw [List.any_eq_true]
   refine ⟨n,hn,?_⟩
   rcases h3 with rfl|⟨h4,h5⟩
   ·simp
   ·rw [R1 hB fuel n (by omega) (by omega) h5,Bool.or_true]
def Rz (T:List (List Nat × List Nat)) (B:List Nat) (l:List Bool) (ds:List Nat) (i:Nat):Bool:=ds.all fun d=>l.getD d true || (decide (d < T.length) && (B.getD d 0).testBit i)
def Lb (T:Bool × List (List Nat × List Nat)) (B:List Nat) (ds:List Nat) (l l':List Bool) (i:Nat):Bool:=T.1 && BR T.2 l i && xA T.2 l i && EF T.2 l && Rz T.2 B l ds i && (l.set i true == l')
/-- take_'s, by the bits. -/
theorem aen {B:List Nat} (hT:gF md ops=T) (hB:akZ T.2 B=true) (h:Lb T B ds l.toList l'.toList i=true):DK md ops ds l l' i=true:=by
 refine aem hT ?_
 simp only [Lb,La,Bool.and_eq_true] at h ⊢
 obtain ⟨⟨⟨⟨⟨h1,h2⟩,h3⟩,h4⟩,h5⟩,h6⟩:=h
 refine ⟨⟨⟨⟨⟨h1,h2⟩,h3⟩,h4⟩,?_⟩,h6⟩
 unfold Rz at h5
 unfold FO
 rw [List.all_eq_true] at h5 ⊢
 intro d hd
 have h7:=h5 d hd
 rw [Bool.or_eq_true,Bool.and_eq_true,decide_eq_true_eq] at h7
 rcases h7 with h7|⟨h8,h9⟩
 ·rw [h7,Bool.true_or]
 ·rw [R1 hB _ d h8 h8 h9,Bool.or_true]
theorem qu {P:Program} {Q:Exit→Act→World→Prop} {S:World→Prop} {n:Nat} {a:Act} {w:World} {B:List Nat} (hT:gF md ops=T) (hB:akZ T.2 B=true) (h:au (gF md ops=T)→au (akZ T.2 B=true)→eN P md ops Q S ds n l a w):eN P md ops Q S ds n l a w:=h ⟨hT⟩ ⟨hB⟩
end
/-- The operations of a region, by its number. -/
def uz : Code → Nat → Option (Array Oper)
 | .region id ops _,k=>if id == k then some ops else none
 | .seq a b,k=>match uz a k with
  | some o=>some o
  | none=>uz b k
 | .cond _ a b,k=>match uz a k with
  | some o=>some o
  | none=>uz b k
 | .block _ c,k=>uz c k
 | .loop c,k=>uz c k
 | .scope c,k=>uz c k
 | .rangeFunc _ _ a b,k=>match uz a k with
  | some o=>some o
  | none=>uz b k
 | _,_=>none
def opsOf (f:Func) (k:Nat):Array Oper:=((f.body.bind fun c=>uz c k)).getD #[]
end Go.Proofs.bI.je
/- Set with little white space, by a program. -/
