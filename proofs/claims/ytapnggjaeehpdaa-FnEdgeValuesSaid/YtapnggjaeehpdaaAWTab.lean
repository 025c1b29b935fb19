/- Words on rows, worlds and walks that the texts of one law use (chosen by a program out of the seat's printed words). No condition beyond each theorem's own. -/
import Derived.Test.YtapnggjaeehpdaaAWLast
import Derived.Test.YtapnggjaeehpdaaAWWords
namespace Go.Proofs.bB.ark
open Go.Proofs.bB.dI (ai)
def CJ (md:Region.Mode) (o:Oper):List Nat:=(o.after.toList.filter (fun e=>Region.binds md e)).map (fun e=>e.on)
def LO (md:Region.Mode) (ops:Array Oper) (i:Nat) (oi:Oper):List Nat:=(List.range ops.size).filter fun j=>!(j == i) && match ops[j]? with
 | some oj=>!(oj.after.any (fun e=>Region.binds md e && e.on == i) || oi.apart ops oj)
 | none=>false
/-- No select in it; for each operation: what must have come up before it, and what may not come up behind it if it is taken first. -/
def eH (md:Region.Mode) (ops:Array Oper):Bool × List (List Nat × List Nat):=(Region.noSelect ops,(List.range ops.size).map fun i=>match ops[i]? with
 | some o=>(CJ md o,LO md ops i o)
 | none=>([],[]))
def yZ (T:List (List Nat × List Nat)) (l:List Bool) (i:Nat):Bool:=!l.getD i true && match T[i]? with
 | some r=>r.1.all (fun j=>l.getD j false)
 | none=>false
def FV (T:List (List Nat × List Nat)) (l:List Bool):List Nat:=(List.range T.length).filter (yZ T l)
def El (T:List (List Nat × List Nat)) (l:List Bool) (i:Nat):Bool:=match T[i]? with
 | some r=>r.2.all (fun j=>l.getD j true)
 | none=>false
def Hl (T:List (List Nat × List Nat)) (l:List Bool):Bool:=(List.range T.length).all fun j=>!l.getD j false || match T[j]? with
 | some r=>r.1.all (fun k=>l.getD k false)
 | none=>true
def CP (T : List (List Nat × List Nat)) (i : Nat) : Nat → Nat → Bool
 | 0,_=>false
 | fuel+1,d=>match T[d]? with
  | some r=>r.1.any fun j=>j == i || CP T i fuel j
  | none=>false
def IF (T:List (List Nat × List Nat)) (l:List Bool) (ds:List Nat) (i:Nat):Bool:=ds.all fun d=>l.getD d true || CP T i T.length d
section
variable {md:Region.Mode} {ops:Array Oper} {T:Bool × List (List Nat × List Nat)} {l l' li lj lk:Array Bool} {ds:List Nat} {i j k:Nat}
theorem gd (l:Array Bool) (j:Nat) (b:Bool):l.getD j b=l.toList.getD j b:=by simp [Array.getD_eq_getD_getElem?,List.getD_eq_getElem?_getD]
theorem Wh (o:Oper) (p:Nat→Bool):o.after.all (fun e=>!Region.binds md e || p e.on)=(CJ md o).all p:=by
 unfold CJ
 rw [← Array.all_toList]
 induction o.after.toList with
 | nil=>rfl
 | cons e r ih =>
  rw [List.all_cons,ih,List.filter_cons]
  cases h:Region.binds md e<;>simp
theorem ahJ (o:Oper) (p:Nat→Bool):o.after.any (fun e=>Region.binds md e && p e.on)=(CJ md o).any p:=by
 unfold CJ
 rw [← Array.any_toList]
 induction o.after.toList with
 | nil=>rfl
 | cons e r ih =>
  rw [List.any_cons,ih,List.filter_cons]
  cases h:Region.binds md e<;>simp
theorem I3:(eH md ops).2.length=ops.size:=by simp [eH]
theorem I5 {o:Oper} (h:ops[i]?=some o):(eH md ops).2[i]?=some (CJ md o,LO md ops i o):=by
 have hi:=(Array.getElem?_eq_some_iff.1 h).1
 unfold eH
 rw [List.getElem?_map,List.getElem?_range hi,Option.map_some,h]
theorem I4 (h:ops[i]?=none):(eH md ops).2[i]?=none:=by
 have hi:ops.size≤i:=Array.getElem?_eq_none_iff.1 h
 exact List.getElem?_eq_none (by rw [I3];exact hi)
theorem aif:yZ (eH md ops).2 l.toList i=(!l.getD i true && ((ops[i]?).map (·.after.all fun e=>!Region.binds md e || l.getD e.on false)).getD false):=by
 unfold yZ
 rw [gd]
 cases h:ops[i]? with
 | none=>rw [I4 h];rfl
 | some o =>
  rw [I5 h]
  simp only [Option.map_some,Option.getD_some]
  rw [← Wh]
  simp only [gd]
theorem Oh:Region.ready md ops l=FV (eH md ops).2 l.toList:=by
 unfold Region.ready FV
 rw [I3]
 refine List.filter_congr (fun i _=>?_)
 rw [aif]
theorem Tc:Region.free md ops l i=El (eH md ops).2 l.toList i:=by
 unfold Region.free El
 cases h:ops[i]? with
 | none=>rw [I4 h]
 | some oi =>
  rw [I5 h]
  simp only [LO]
  rw [List.all_filter]
  congr 1
  funext j
  rw [gd]
  cases hj:ops[j]? with
  | none=>cases (j == i)<;>cases (l.toList.getD j true)<;>simp
  | some oj =>
   cases (j == i)<;>cases (l.toList.getD j true)<;>cases (oj.after.any (fun e=>Region.binds md e && e.on == i) || oi.apart ops oj)<;>simp_all
theorem adC:Region.D2 md ops l=Hl (eH md ops).2 l.toList:=by
 unfold Region.D2 Hl
 rw [I3]
 congr 1
 funext j
 rw [gd]
 cases h:ops[j]? with
 | none=>rw [I4 h]
 | some o =>
  rw [I5 h]
  simp only
  rw [← Wh]
  simp only [gd]
theorem Wz : ∀ (fuel d : Nat), Region.tK md ops i fuel d = CP (eH md ops).2 i fuel d
 | 0,_=>rfl
 | fuel+1,d=>by
  unfold Region.tK CP
  cases h:ops[d]? with
  | none=>rw [I4 h]
  | some o =>
   rw [I5 h]
   simp only
   rw [← ahJ]
   congr 1
   funext e
   rw [Wz fuel]
theorem ahu:Region.IE md ops l ds i=IF (eH md ops).2 l.toList ds i:=by
 unfold Region.IE IF
 rw [I3]
 congr 1
 funext d
 rw [gd,Wz]
theorem WB (h:yZ T.2 l.toList i=true) (hT:eH md ops=T):(Region.ready md ops l).contains i=true:=by
 subst hT
 rw [Oh]
 unfold FV
 rw [List.contains_iff_mem,List.mem_filter,List.mem_range]
 refine ⟨?_,h⟩
 unfold yZ at h
 rw [Bool.and_eq_true] at h
 cases hq:(eH md ops).2[i]? with
 | none=>rw [hq] at h;simp at h
 | some r=>exact (List.getElem?_eq_some_iff.1 hq).1
theorem Ol (h:(l.toList.set i true == l'.toList)=true):(l.setIfInBounds i true == l')=true:=by
 rw [beq_iff_eq] at h ⊢
 apply Array.ext'
 rw [Array.toList_setIfInBounds]
 exact h
def Lg (T:Bool × List (List Nat × List Nat)) (l l':List Bool) (i:Nat):Bool:=T.1 && El T.2 l i && yZ T.2 l i && (l.set i true == l')
/-- pure_'s condition out of the table. -/
theorem abH (hT:eH md ops=T) (h:Lg T l.toList l'.toList i=true):G2 md ops l l' i=true:=by
 simp only [Lg,Bool.and_eq_true] at h
 obtain ⟨⟨⟨h1,h2⟩,h3⟩,h4⟩:=h
 have h5:=WB h3 hT
 have h6:=Ol h4
 subst hT
 simp only [G2,Bool.and_eq_true]
 exact ⟨⟨⟨h1,by rw [Tc];exact h2⟩,h5⟩,h6⟩
def Oz (T:Bool × List (List Nat × List Nat)) (ds:List Nat) (l l':List Bool) (i:Nat):Bool:=T.1 && El T.2 l i && yZ T.2 l i && Hl T.2 l && IF T.2 l ds i && (l.set i true == l')
/-- take_'s. -/
theorem ajj (hT:eH md ops=T) (h:Oz T ds l.toList l'.toList i=true):FZ md ops ds l l' i=true:=by
 simp only [Oz,Bool.and_eq_true] at h
 obtain ⟨⟨⟨⟨⟨h1,h2⟩,h3⟩,h4⟩,h5⟩,h6⟩:=h
 have h7:=WB h3 hT
 have h8:=Ol h6
 subst hT
 simp only [FZ,Bool.and_eq_true]
 exact ⟨⟨⟨⟨⟨h1,by rw [Tc];exact h2⟩,h7⟩,by rw [adC];exact h4⟩,by rw [ahu];exact h5⟩,h8⟩
/-- one_'s and last_'s. -/
theorem dU (hT:eH md ops=T) (h:(FV T.2 l.toList == [i] && l.toList.set i true == l'.toList)=true):asH md ops l l' i=true:=by
 simp only [Bool.and_eq_true] at h
 obtain ⟨h1,h2⟩:=h
 subst hT
 simp only [asH,Bool.and_eq_true]
 exact ⟨by rw [Oh];exact h1,Ol h2⟩
/-- done_'s. -/
theorem gZ (hT:eH md ops=T) (h:(FV T.2 l.toList == [])=true):(Region.ready md ops l == [])=true:=by
 subst hT
 rw [Oh]
 exact h
/-- What d waits for, as_ bits: told in the table (B), checked in one pass: each bit is a need of d, or a bit of an earlier need's. -/
def asP (B : List Nat) (d : Nat) : List Nat → Nat
 | []=>0
 | n :: r=>(2 ^ n ||| (if n < d then B.getD n 0 else 0)) ||| asP B d r
def iL (T:List (List Nat × List Nat)) (B:List Nat):Bool:=(List.range T.length).all fun d=>match T[d]? with
 | some r=>(B.getD d 0 ||| asP B d r.1) == asP B d r.1
 | none=>false
theorem atI {B : List Nat} {d i : Nat} : ∀ {ns : List Nat}, (asP B d ns).testBit i = true → ∃ n ∈ ns, n = i ∨ (n < d ∧ (B.getD n 0).testBit i = true)
 | [],h=>by simp [asP] at h
 | n :: r,h=>by
  unfold asP at h
  rw [Nat.testBit_or,Nat.testBit_or,Bool.or_eq_true,Bool.or_eq_true] at h
  rcases h with (h|h)|h
  ·rw [Nat.testBit_two_pow] at h
   exact ⟨n,List.mem_cons_self,.inl (by simpa using h)⟩
  ·by_cases hn : n < d
   ·rw [if_pos hn] at h
    exact ⟨n,List.mem_cons_self,.inr ⟨hn,h⟩⟩
   ·rw [if_neg hn] at h
    simp at h
  ·obtain ⟨m, hm, h2⟩ := atI h
   exact ⟨m,List.mem_cons_of_mem _ hm,h2⟩
theorem Wy {T : List (List Nat × List Nat)} {B : List Nat} (hB : iL T B = true) : ∀ (fuel d : Nat), d < fuel → d < T.length → (B.getD d 0).testBit i = true → CP T i fuel d = true
 | 0,d,h,_,_=>by omega
 | fuel+1,d,h,hd,hb=>by
  have h1:=List.all_eq_true.1 hB d (List.mem_range.2 hd)
  cases hr:T[d]? with
  | none=>rw [hr] at h1;simp at h1
  | some r =>
   rw [hr] at h1
   simp only [beq_iff_eq] at h1
   have h2:(asP B d r.1).testBit i=true:=by rw [← h1,Nat.testBit_or,hb,Bool.true_or]
   obtain ⟨n,hn,h3⟩:=atI h2
   unfold CP
   rw [hr]
   simp only
   rw [List.any_eq_true]
   refine ⟨n,hn,?_⟩
   rcases h3 with rfl|⟨h4,h5⟩
   ·simp
   ·rw [Wy hB fuel n (by omega) (by omega) h5,Bool.or_true]
def V9 (T:List (List Nat × List Nat)) (B:List Nat) (l:List Bool) (ds:List Nat) (i:Nat):Bool:=ds.all fun d=>l.getD d true || (decide (d < T.length) && (B.getD d 0).testBit i)
def OA (T:Bool × List (List Nat × List Nat)) (B:List Nat) (ds:List Nat) (l l':List Bool) (i:Nat):Bool:=T.1 && El T.2 l i && yZ T.2 l i && Hl T.2 l && V9 T.2 B l ds i && (l.set i true == l')
/-- take_'s, by the bits. -/
theorem ajk {B:List Nat} (hT:eH md ops=T) (hB:iL T.2 B=true) (h:OA T B ds l.toList l'.toList i=true):FZ md ops ds l l' i=true:=by
 refine ajj hT ?_
 simp only [OA,Oz,Bool.and_eq_true] at h ⊢
 obtain ⟨⟨⟨⟨⟨h1,h2⟩,h3⟩,h4⟩,h5⟩,h6⟩:=h
 refine ⟨⟨⟨⟨⟨h1,h2⟩,h3⟩,h4⟩,?_⟩,h6⟩
 unfold V9 at h5
 unfold IF
 rw [List.all_eq_true] at h5 ⊢
 intro d hd
 have h7:=h5 d hd
 rw [Bool.or_eq_true,Bool.and_eq_true,decide_eq_true_eq] at h7
 rcases h7 with h7|⟨h8,h9⟩
 ·rw [h7,Bool.true_or]
 ·rw [Wy hB _ d h8 h8 h9,Bool.or_true]
theorem hJ {P:Program} {Q:Exit→Act→World→Prop} {S:World→Prop} {n:Nat} {a:Act} {w:World} {B:List Nat} (hT:eH md ops=T) (hB:iL T.2 B=true) (h:ai (eH md ops=T)→ai (iL T.2 B=true)→fC P md ops Q S ds n l a w):fC P md ops Q S ds n l a w:=h ⟨hT⟩ ⟨hB⟩
end
/-- The operations of a region, by its number. -/
def asp : Code → Nat → Option (Array Oper)
 | .region id ops _,k=>if id == k then some ops else none
 | .seq a b,k=>match asp a k with
  | some o=>some o
  | none=>asp b k
 | .cond _ a b,k=>match asp a k with
  | some o=>some o
  | none=>asp b k
 | .block _ c,k=>asp c k
 | .loop c,k=>asp c k
 | .scope c,k=>asp c k
 | .rangeFunc _ _ a b,k=>match asp a k with
  | some o=>some o
  | none=>asp b k
 | _,_=>none
def opsOf (f:Func) (k:Nat):Array Oper:=((f.body.bind fun c=>asp c k)).getD #[]
end Go.Proofs.bB.ark
/- Set with little white space, by a program. -/
