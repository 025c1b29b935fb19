/- Words on rows, worlds and walks that the texts of one law use (chosen by a program out of the seat's printed words). No condition beyond each theorem's own. -/
import Derived.Test.YtoebojnhchocaaaEWLast
import Derived.Test.YtoebojnhchocaaaEWWords
namespace Go.Proofs.bY.ko
open Go.Proofs.bY.apf (aj)
def CB (md:Region.Mode) (o:Oper):List Nat:=(o.after.toList.filter (fun e=>Region.binds md e)).map (fun e=>e.on)
def J0 (md:Region.Mode) (ops:Array Oper) (i:Nat) (oi:Oper):List Nat:=(List.range ops.size).filter fun j=>!(j == i) && match ops[j]? with
 | some oj=>!(oj.after.any (fun e=>Region.binds md e && e.on == i) || oi.apart ops oj)
 | none=>false
/-- No select in it; for each operation: what must have come up before it, and what may not come up behind it if it is taken first. -/
def iP (md:Region.Mode) (ops:Array Oper):Bool × List (List Nat × List Nat):=(Region.noSelect ops,(List.range ops.size).map fun i=>match ops[i]? with
 | some o=>(CB md o,J0 md ops i o)
 | none=>([],[]))
def yY (T:List (List Nat × List Nat)) (l:List Bool) (i:Nat):Bool:=!l.getD i true && match T[i]? with
 | some r=>r.1.all (fun j=>l.getD j false)
 | none=>false
def Fg (T:List (List Nat × List Nat)) (l:List Bool):List Nat:=(List.range T.length).filter (yY T l)
def Eb (T:List (List Nat × List Nat)) (l:List Bool) (i:Nat):Bool:=match T[i]? with
 | some r=>r.2.all (fun j=>l.getD j true)
 | none=>false
def Gl (T:List (List Nat × List Nat)) (l:List Bool):Bool:=(List.range T.length).all fun j=>!l.getD j false || match T[j]? with
 | some r=>r.1.all (fun k=>l.getD k false)
 | none=>true
def CF (T : List (List Nat × List Nat)) (i : Nat) : Nat → Nat → Bool
 | 0,_=>false
 | fuel+1,d=>match T[d]? with
  | some r=>r.1.any fun j=>j == i || CF T i fuel j
  | none=>false
def aq5 (T:List (List Nat × List Nat)) (l:List Bool) (ds:List Nat) (i:Nat):Bool:=ds.all fun d=>l.getD d true || CF T i T.length d
section
variable {md:Region.Mode} {ops:Array Oper} {T:Bool × List (List Nat × List Nat)} {l l' li lj lk:Array Bool} {ds:List Nat} {i j k:Nat}
theorem gd (l:Array Bool) (j:Nat) (b:Bool):l.getD j b=l.toList.getD j b:=by simp [Array.getD_eq_getD_getElem?,List.getD_eq_getElem?_getD]
theorem Tq (o:Oper) (p:Nat→Bool):o.after.all (fun e=>!Region.binds md e || p e.on)=(CB md o).all p:=by
 unfold CB
 rw [← Array.all_toList]
 induction o.after.toList with
 | nil=>rfl
 | cons e r ih =>
  rw [List.all_cons,ih,List.filter_cons]
  cases h:Region.binds md e<;>simp
theorem aem (o:Oper) (p:Nat→Bool):o.after.any (fun e=>Region.binds md e && p e.on)=(CB md o).any p:=by
 unfold CB
 rw [← Array.any_toList]
 induction o.after.toList with
 | nil=>rfl
 | cons e r ih =>
  rw [List.any_cons,ih,List.filter_cons]
  cases h:Region.binds md e<;>simp
theorem H6:(iP md ops).2.length=ops.size:=by simp [iP]
theorem H8 {o:Oper} (h:ops[i]?=some o):(iP md ops).2[i]?=some (CB md o,J0 md ops i o):=by
 have hi:=(Array.getElem?_eq_some_iff.1 h).1
 unfold iP
 rw [List.getElem?_map,List.getElem?_range hi,Option.map_some,h]
theorem H7 (h:ops[i]?=none):(iP md ops).2[i]?=none:=by
 have hi:ops.size≤i:=Array.getElem?_eq_none_iff.1 h
 exact List.getElem?_eq_none (by rw [H6];exact hi)
theorem aeU:yY (iP md ops).2 l.toList i=(!l.getD i true && ((ops[i]?).map (·.after.all fun e=>!Region.binds md e || l.getD e.on false)).getD false):=by
 unfold yY
 rw [gd]
 cases h:ops[i]? with
 | none=>rw [H7 h];rfl
 | some o =>
  rw [H8 h]
  simp only [Option.map_some,Option.getD_some]
  rw [← Tq]
  simp only [gd]
theorem aq':Region.ready md ops l=Fg (iP md ops).2 l.toList:=by
 unfold Region.ready Fg
 rw [H6]
 refine List.filter_congr (fun i _=>?_)
 rw [aeU]
theorem QA:Region.free md ops l i=Eb (iP md ops).2 l.toList i:=by
 unfold Region.free Eb
 cases h:ops[i]? with
 | none=>rw [H7 h]
 | some oi =>
  rw [H8 h]
  simp only [J0]
  rw [List.all_filter]
  congr 1
  funext j
  rw [gd]
  cases hj:ops[j]? with
  | none=>cases (j == i)<;>cases (l.toList.getD j true)<;>simp
  | some oj =>
   cases (j == i)<;>cases (l.toList.getD j true)<;>cases (oj.after.any (fun e=>Region.binds md e && e.on == i) || oi.apart ops oj)<;>simp_all
theorem Yl:Region.DY md ops l=Gl (iP md ops).2 l.toList:=by
 unfold Region.DY Gl
 rw [H6]
 congr 1
 funext j
 rw [gd]
 cases h:ops[j]? with
 | none=>rw [H7 h]
 | some o =>
  rw [H8 h]
  simp only
  rw [← Tq]
  simp only [gd]
theorem TH : ∀ (fuel d : Nat), Region.tF md ops i fuel d = CF (iP md ops).2 i fuel d
 | 0,_=>rfl
 | fuel+1,d=>by
  unfold Region.tF CF
  cases h:ops[d]? with
  | none=>rw [H7 h]
  | some o =>
   rw [H8 h]
   simp only
   rw [← aem]
   congr 1
   funext e
   rw [TH fuel]
theorem ad_:Region.HQ md ops l ds i=aq5 (iP md ops).2 l.toList ds i:=by
 unfold Region.HQ aq5
 rw [H6]
 congr 1
 funext d
 rw [gd,TH]
theorem TJ (h:yY T.2 l.toList i=true) (hT:iP md ops=T):(Region.ready md ops l).contains i=true:=by
 subst hT
 rw [aq']
 unfold Fg
 rw [List.contains_iff_mem,List.mem_filter,List.mem_range]
 refine ⟨?_,h⟩
 unfold yY at h
 rw [Bool.and_eq_true] at h
 cases hq:(iP md ops).2[i]? with
 | none=>rw [hq] at h;simp at h
 | some r=>exact (List.getElem?_eq_some_iff.1 hq).1
theorem M_ (h:(l.toList.set i true == l'.toList)=true):(l.setIfInBounds i true == l')=true:=by
 rw [beq_iff_eq] at h ⊢
 apply Array.ext'
 rw [Array.toList_setIfInBounds]
 exact h
def JN (T:Bool × List (List Nat × List Nat)) (l l':List Bool) (i:Nat):Bool:=T.1 && Eb T.2 l i && yY T.2 l i && (l.set i true == l')
/-- pure_'s condition out of the table. -/
theorem apF (hT:iP md ops=T) (h:JN T l.toList l'.toList i=true):Ga md ops l l' i=true:=by
 simp only [JN,Bool.and_eq_true] at h
 obtain ⟨⟨⟨h1,h2⟩,h3⟩,h4⟩:=h
 have h5:=TJ h3 hT
 have h6:=M_ h4
 subst hT
 simp only [Ga,Bool.and_eq_true]
 exact ⟨⟨⟨h1,by rw [QA];exact h2⟩,h5⟩,h6⟩
def Ng (T:Bool × List (List Nat × List Nat)) (ds:List Nat) (l l':List Bool) (i:Nat):Bool:=T.1 && Eb T.2 l i && yY T.2 l i && Gl T.2 l && aq5 T.2 l ds i && (l.set i true == l')
/-- take_'s. -/
theorem afz (hT:iP md ops=T) (h:Ng T ds l.toList l'.toList i=true):Fk md ops ds l l' i=true:=by
 simp only [Ng,Bool.and_eq_true] at h
 obtain ⟨⟨⟨⟨⟨h1,h2⟩,h3⟩,h4⟩,h5⟩,h6⟩:=h
 have h7:=TJ h3 hT
 have h8:=M_ h6
 subst hT
 simp only [Fk,Bool.and_eq_true]
 exact ⟨⟨⟨⟨⟨h1,by rw [QA];exact h2⟩,h7⟩,by rw [Yl];exact h4⟩,by rw [ad_];exact h5⟩,h8⟩
/-- one_'s and last_'s. -/
theorem hO (hT:iP md ops=T) (h:(Fg T.2 l.toList == [i] && l.toList.set i true == l'.toList)=true):CG md ops l l' i=true:=by
 simp only [Bool.and_eq_true] at h
 obtain ⟨h1,h2⟩:=h
 subst hT
 simp only [CG,Bool.and_eq_true]
 exact ⟨by rw [aq'];exact h1,M_ h2⟩
/-- done_'s. -/
theorem nj (hT:iP md ops=T) (h:(Fg T.2 l.toList == [])=true):(Region.ready md ops l == [])=true:=by
 subst hT
 rw [aq']
 exact h
/-- What d waits for, as_ bits: told in the table (B), checked in one pass: each bit is a need of d, or a bit of an earlier need's. -/
def AZ (B : List Nat) (d : Nat) : List Nat → Nat
 | []=>0
 | n :: r=>(2 ^ n ||| (if n < d then B.getD n 0 else 0)) ||| AZ B d r
def nA (T:List (List Nat × List Nat)) (B:List Nat):Bool:=(List.range T.length).all fun d=>match T[d]? with
 | some r=>(B.getD d 0 ||| AZ B d r.1) == AZ B d r.1
 | none=>false
theorem T' {B : List Nat} {d i : Nat} : ∀ {ns : List Nat}, (AZ B d ns).testBit i = true → ∃ n ∈ ns, n = i ∨ (n < d ∧ (B.getD n 0).testBit i = true)
 | [],h=>by simp [AZ] at h
 | n :: r,h=>by
  unfold AZ at h
  rw [Nat.testBit_or,Nat.testBit_or,Bool.or_eq_true,Bool.or_eq_true] at h
  rcases h with (h|h)|h
  ·rw [Nat.testBit_two_pow] at h
   exact ⟨n,List.mem_cons_self,.inl (by simpa using h)⟩
  ·by_cases hn : n < d
   ·rw [if_pos hn] at h
    exact ⟨n,List.mem_cons_self,.inr ⟨hn,h⟩⟩
   ·rw [if_neg hn] at h
    simp at h
  ·obtain ⟨m, hm, h2⟩ := T' h
   exact ⟨m,List.mem_cons_of_mem _ hm,h2⟩
theorem TG {T : List (List Nat × List Nat)} {B : List Nat} (hB : nA T B = true) : ∀ (fuel d : Nat), d < fuel → d < T.length → (B.getD d 0).testBit i = true → CF T i fuel d = true
 | 0,d,h,_,_=>by omega
 | fuel+1,d,h,hd,hb=>by
  have h1:=List.all_eq_true.1 hB d (List.mem_range.2 hd)
  cases hr:T[d]? with
  | none=>rw [hr] at h1;simp at h1
  | some r =>
   rw [hr] at h1
   simp only [beq_iff_eq] at h1
   have h2:(AZ B d r.1).testBit i=true:=by rw [← h1,Nat.testBit_or,hb,Bool.true_or]
   obtain ⟨n,hn,h3⟩:=T' h2
   unfold CF
   rw [hr]
   simp only
   rw [List.any_eq_true]
   refine ⟨n,hn,?_⟩
   rcases h3 with rfl|⟨h4,h5⟩
   ·simp
   ·rw [TG hB fuel n (by omega) (by omega) h5,Bool.or_true]
def Tf (T:List (List Nat × List Nat)) (B:List Nat) (l:List Bool) (ds:List Nat) (i:Nat):Bool:=ds.all fun d=>l.getD d true || (decide (d < T.length) && (B.getD d 0).testBit i)
def Nh (T:Bool × List (List Nat × List Nat)) (B:List Nat) (ds:List Nat) (l l':List Bool) (i:Nat):Bool:=T.1 && Eb T.2 l i && yY T.2 l i && Gl T.2 l && Tf T.2 B l ds i && (l.set i true == l')
/-- take_'s, by the bits. -/
theorem afA {B:List Nat} (hT:iP md ops=T) (hB:nA T.2 B=true) (h:Nh T B ds l.toList l'.toList i=true):Fk md ops ds l l' i=true:=by
 refine afz hT ?_
 simp only [Nh,Ng,Bool.and_eq_true] at h ⊢
 obtain ⟨⟨⟨⟨⟨h1,h2⟩,h3⟩,h4⟩,h5⟩,h6⟩:=h
 refine ⟨⟨⟨⟨⟨h1,h2⟩,h3⟩,h4⟩,?_⟩,h6⟩
 unfold Tf at h5
 unfold aq5
 rw [List.all_eq_true] at h5 ⊢
 intro d hd
 have h7:=h5 d hd
 rw [Bool.or_eq_true,Bool.and_eq_true,decide_eq_true_eq] at h7
 rcases h7 with h7|⟨h8,h9⟩
 ·rw [h7,Bool.true_or]
 ·rw [TG hB _ d h8 h8 h9,Bool.or_true]
theorem nB {P:Program} {Q:Exit→Act→World→Prop} {S:World→Prop} {n:Nat} {a:Act} {w:World} {B:List Nat} (hT:iP md ops=T) (hB:nA T.2 B=true) (h:aj (iP md ops=T)→aj (nA T.2 B=true)→jv P md ops Q S ds n l a w):jv P md ops Q S ds n l a w:=h ⟨hT⟩ ⟨hB⟩
end
/-- The operations of a region, by its number. -/
def wA : Code → Nat → Option (Array Oper)
 | .region id ops _,k=>if id == k then some ops else none
 | .seq a b,k=>match wA a k with
  | some o=>some o
  | none=>wA b k
 | .cond _ a b,k=>match wA a k with
  | some o=>some o
  | none=>wA b k
 | .block _ c,k=>wA c k
 | .loop c,k=>wA c k
 | .scope c,k=>wA c k
 | .rangeFunc _ _ a b,k=>match wA a k with
  | some o=>some o
  | none=>wA b k
 | _,_=>none
def opsOf (f:Func) (k:Nat):Array Oper:=((f.body.bind fun c=>wA c k)).getD #[]
end Go.Proofs.bY.ko
/- Set with little white space, by a program. -/
