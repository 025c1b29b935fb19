/- Words on rows, worlds and walks that the texts of one law use (chosen by a program out of the seat's printed words). No condition beyond each theorem's own. -/
import Derived.Test.YtapnggjaeehpdaaBWLast
import Derived.Test.YtapnggjaeehpdaaBWWords
namespace Go.Proofs.bz.iY
open Go.Proofs.bz.dI (af)
def EZ (md:Region.Mode) (o:Oper):List Nat:=(o.after.toList.filter (fun e=>Region.binds md e)).map (fun e=>e.on)
def Oi (md:Region.Mode) (ops:Array Oper) (i:Nat) (oi:Oper):List Nat:=(List.range ops.size).filter fun j=>!(j == i) && match ops[j]? with
 | some oj=>!(oj.after.any (fun e=>Region.binds md e && e.on == i) || oi.apart ops oj)
 | none=>false
/-- No select in it; for each operation: what must have come up before it, and what may not come up behind it if it is taken first. -/
def eB (md:Region.Mode) (ops:Array Oper):Bool × List (List Nat × List Nat):=(Region.noSelect ops,(List.range ops.size).map fun i=>match ops[i]? with
 | some o=>(EZ md o,Oi md ops i o)
 | none=>([],[]))
def Bk (T:List (List Nat × List Nat)) (l:List Bool) (i:Nat):Bool:=!l.getD i true && match T[i]? with
 | some r=>r.1.all (fun j=>l.getD j false)
 | none=>false
def Ie (T:List (List Nat × List Nat)) (l:List Bool):List Nat:=(List.range T.length).filter (Bk T l)
def Gu (T:List (List Nat × List Nat)) (l:List Bool) (i:Nat):Bool:=match T[i]? with
 | some r=>r.2.all (fun j=>l.getD j true)
 | none=>false
def JW (T:List (List Nat × List Nat)) (l:List Bool):Bool:=(List.range T.length).all fun j=>!l.getD j false || match T[j]? with
 | some r=>r.1.all (fun k=>l.getD k false)
 | none=>true
def E6 (T : List (List Nat × List Nat)) (i : Nat) : Nat → Nat → Bool
 | 0,_=>false
 | fuel+1,d=>match T[d]? with
  | some r=>r.1.any fun j=>j == i || E6 T i fuel j
  | none=>false
def KZ (T:List (List Nat × List Nat)) (l:List Bool) (ds:List Nat) (i:Nat):Bool:=ds.all fun d=>l.getD d true || E6 T i T.length d
section
variable {md:Region.Mode} {ops:Array Oper} {T:Bool × List (List Nat × List Nat)} {l l' li lj lk:Array Bool} {ds:List Nat} {i j k:Nat}
theorem gd (l:Array Bool) (j:Nat) (b:Bool):l.getD j b=l.toList.getD j b:=by simp [Array.getD_eq_getD_getElem?,List.getD_eq_getElem?_getD]
theorem YR (o:Oper) (p:Nat→Bool):o.after.all (fun e=>!Region.binds md e || p e.on)=(EZ md o).all p:=by
 unfold EZ
 rw [← Array.all_toList]
 induction o.after.toList with
 | nil=>rfl
 | cons e r ih =>
  rw [List.all_cons,ih,List.filter_cons]
  cases h:Region.binds md e<;>simp
theorem ajn (o:Oper) (p:Nat→Bool):o.after.any (fun e=>Region.binds md e && p e.on)=(EZ md o).any p:=by
 unfold EZ
 rw [← Array.any_toList]
 induction o.after.toList with
 | nil=>rfl
 | cons e r ih =>
  rw [List.any_cons,ih,List.filter_cons]
  cases h:Region.binds md e<;>simp
theorem Lh:(eB md ops).2.length=ops.size:=by simp [eB]
theorem Lj {o:Oper} (h:ops[i]?=some o):(eB md ops).2[i]?=some (EZ md o,Oi md ops i o):=by
 have hi:=(Array.getElem?_eq_some_iff.1 h).1
 unfold eB
 rw [List.getElem?_map,List.getElem?_range hi,Option.map_some,h]
theorem Li (h:ops[i]?=none):(eB md ops).2[i]?=none:=by
 have hi:ops.size≤i:=Array.getElem?_eq_none_iff.1 h
 exact List.getElem?_eq_none (by rw [Lh];exact hi)
theorem ajS:Bk (eB md ops).2 l.toList i=(!l.getD i true && ((ops[i]?).map (·.after.all fun e=>!Region.binds md e || l.getD e.on false)).getD false):=by
 unfold Bk
 rw [gd]
 cases h:ops[i]? with
 | none=>rw [Li h];rfl
 | some o =>
  rw [Lj h]
  simp only [Option.map_some,Option.getD_some]
  rw [← YR]
  simp only [gd]
theorem Q4:Region.ready md ops l=Ie (eB md ops).2 l.toList:=by
 unfold Region.ready Ie
 rw [Lh]
 refine List.filter_congr (fun i _=>?_)
 rw [ajS]
theorem VC:Region.free md ops l i=Gu (eB md ops).2 l.toList i:=by
 unfold Region.free Gu
 cases h:ops[i]? with
 | none=>rw [Li h]
 | some oi =>
  rw [Lj h]
  simp only [Oi]
  rw [List.all_filter]
  congr 1
  funext j
  rw [gd]
  cases hj:ops[j]? with
  | none=>cases (j == i)<;>cases (l.toList.getD j true)<;>simp
  | some oj =>
   cases (j == i)<;>cases (l.toList.getD j true)<;>cases (oj.after.any (fun e=>Region.binds md e && e.on == i) || oi.apart ops oj)<;>simp_all
theorem aeY:Region.Gi md ops l=JW (eB md ops).2 l.toList:=by
 unfold Region.Gi JW
 rw [Lh]
 congr 1
 funext j
 rw [gd]
 cases h:ops[j]? with
 | none=>rw [Li h]
 | some o =>
  rw [Lj h]
  simp only
  rw [← YR]
  simp only [gd]
theorem Y5 : ∀ (fuel d : Nat), Region.auJ md ops i fuel d = E6 (eB md ops).2 i fuel d
 | 0,_=>rfl
 | fuel+1,d=>by
  unfold Region.auJ E6
  cases h:ops[d]? with
  | none=>rw [Li h]
  | some o =>
   rw [Lj h]
   simp only
   rw [← ajn]
   congr 1
   funext e
   rw [Y5 fuel]
theorem ai9:Region.KY md ops l ds i=KZ (eB md ops).2 l.toList ds i:=by
 unfold Region.KY KZ
 rw [Lh]
 congr 1
 funext d
 rw [gd,Y5]
theorem Y7 (h:Bk T.2 l.toList i=true) (hT:eB md ops=T):(Region.ready md ops l).contains i=true:=by
 subst hT
 rw [Q4]
 unfold Ie
 rw [List.contains_iff_mem,List.mem_filter,List.mem_range]
 refine ⟨?_,h⟩
 unfold Bk at h
 rw [Bool.and_eq_true] at h
 cases hq:(eB md ops).2[i]? with
 | none=>rw [hq] at h;simp at h
 | some r=>exact (List.getElem?_eq_some_iff.1 hq).1
theorem Q_ (h:(l.toList.set i true == l'.toList)=true):(l.setIfInBounds i true == l')=true:=by
 rw [beq_iff_eq] at h ⊢
 apply Array.ext'
 rw [Array.toList_setIfInBounds]
 exact h
def NG (T:Bool × List (List Nat × List Nat)) (l l':List Bool) (i:Nat):Bool:=T.1 && Gu T.2 l i && Bk T.2 l i && (l.set i true == l')
/-- pure_'s condition out of the table. -/
theorem ada (hT:eB md ops=T) (h:NG T l.toList l'.toList i=true):JG md ops l l' i=true:=by
 simp only [NG,Bool.and_eq_true] at h
 obtain ⟨⟨⟨h1,h2⟩,h3⟩,h4⟩:=h
 have h5:=Y7 h3 hT
 have h6:=Q_ h4
 subst hT
 simp only [JG,Bool.and_eq_true]
 exact ⟨⟨⟨h1,by rw [VC];exact h2⟩,h5⟩,h6⟩
def Rj (T:Bool × List (List Nat × List Nat)) (ds:List Nat) (l l':List Bool) (i:Nat):Bool:=T.1 && Gu T.2 l i && Bk T.2 l i && JW T.2 l && KZ T.2 l ds i && (l.set i true == l')
/-- take_'s. -/
theorem akJ (hT:eB md ops=T) (h:Rj T ds l.toList l'.toList i=true):Io md ops ds l l' i=true:=by
 simp only [Rj,Bool.and_eq_true] at h
 obtain ⟨⟨⟨⟨⟨h1,h2⟩,h3⟩,h4⟩,h5⟩,h6⟩:=h
 have h7:=Y7 h3 hT
 have h8:=Q_ h6
 subst hT
 simp only [Io,Bool.and_eq_true]
 exact ⟨⟨⟨⟨⟨h1,by rw [VC];exact h2⟩,h7⟩,by rw [aeY];exact h4⟩,by rw [ai9];exact h5⟩,h8⟩
/-- one_'s and last_'s. -/
theorem atq (hT:eB md ops=T) (h:(Ie T.2 l.toList == [i] && l.toList.set i true == l'.toList)=true):E7 md ops l l' i=true:=by
 simp only [Bool.and_eq_true] at h
 obtain ⟨h1,h2⟩:=h
 subst hT
 simp only [E7,Bool.and_eq_true]
 exact ⟨by rw [Q4];exact h1,Q_ h2⟩
/-- done_'s. -/
theorem jU (hT:eB md ops=T) (h:(Ie T.2 l.toList == [])=true):(Region.ready md ops l == [])=true:=by
 subst hT
 rw [Q4]
 exact h
/-- What d waits for, as_ bits: told in the table (B), checked in one pass: each bit is a need of d, or a bit of an earlier need's. -/
def C7 (B : List Nat) (d : Nat) : List Nat → Nat
 | []=>0
 | n :: r=>(2 ^ n ||| (if n < d then B.getD n 0 else 0)) ||| C7 B d r
def ie (T:List (List Nat × List Nat)) (B:List Nat):Bool:=(List.range T.length).all fun d=>match T[d]? with
 | some r=>(B.getD d 0 ||| C7 B d r.1) == C7 B d r.1
 | none=>false
theorem Zr {B : List Nat} {d i : Nat} : ∀ {ns : List Nat}, (C7 B d ns).testBit i = true → ∃ n ∈ ns, n = i ∨ (n < d ∧ (B.getD n 0).testBit i = true)
 | [],h=>by simp [C7] at h
 | n :: r,h=>by
  unfold C7 at h
  rw [Nat.testBit_or,Nat.testBit_or,Bool.or_eq_true,Bool.or_eq_true] at h
  rcases h with (h|h)|h
  ·rw [Nat.testBit_two_pow] at h
   exact ⟨n,List.mem_cons_self,.inl (by simpa using h)⟩
  ·by_cases hn : n < d
   ·rw [if_pos hn] at h
    exact ⟨n,List.mem_cons_self,.inr ⟨hn,h⟩⟩
   ·rw [if_neg hn] at h
    simp at h
  ·obtain ⟨m, hm, h2⟩ := Zr h
   exact ⟨m,List.mem_cons_of_mem _ hm,h2⟩
theorem Y4 {T : List (List Nat × List Nat)} {B : List Nat} (hB : ie T B = true) : ∀ (fuel d : Nat), d < fuel → d < T.length → (B.getD d 0).testBit i = true → E6 T i fuel d = true
 | 0,d,h,_,_=>by omega
 | fuel+1,d,h,hd,hb=>by
  have h1:=List.all_eq_true.1 hB d (List.mem_range.2 hd)
  cases hr:T[d]? with
  | none=>rw [hr] at h1;simp at h1
  | some r =>
   rw [hr] at h1
   simp only [beq_iff_eq] at h1
   have h2:(C7 B d r.1).testBit i=true:=by rw [← h1,Nat.testBit_or,hb,Bool.true_or]
   obtain ⟨n,hn,h3⟩:=Zr h2
   unfold E6
   rw [hr]
   simp only
   rw [List.any_eq_true]
   refine ⟨n,hn,?_⟩
   rcases h3 with rfl|⟨h4,h5⟩
   ·simp
   ·rw [Y4 hB fuel n (by omega) (by omega) h5,Bool.or_true]
def YC (T:List (List Nat × List Nat)) (B:List Nat) (l:List Bool) (ds:List Nat) (i:Nat):Bool:=ds.all fun d=>l.getD d true || (decide (d < T.length) && (B.getD d 0).testBit i)
def Bm (T:Bool × List (List Nat × List Nat)) (B:List Nat) (ds:List Nat) (l l':List Bool) (i:Nat):Bool:=T.1 && Gu T.2 l i && Bk T.2 l i && JW T.2 l && YC T.2 B l ds i && (l.set i true == l')
/-- take_'s, by the bits. -/
theorem E9 {B:List Nat} (hT:eB md ops=T) (hB:ie T.2 B=true) (h:Bm T B ds l.toList l'.toList i=true):Io md ops ds l l' i=true:=by
 refine akJ hT ?_
 simp only [Bm,Rj,Bool.and_eq_true] at h ⊢
 obtain ⟨⟨⟨⟨⟨h1,h2⟩,h3⟩,h4⟩,h5⟩,h6⟩:=h
 refine ⟨⟨⟨⟨⟨h1,h2⟩,h3⟩,h4⟩,?_⟩,h6⟩
 unfold YC at h5
 unfold KZ
 rw [List.all_eq_true] at h5 ⊢
 intro d hd
 have h7:=h5 d hd
 rw [Bool.or_eq_true,Bool.and_eq_true,decide_eq_true_eq] at h7
 rcases h7 with h7|⟨h8,h9⟩
 ·rw [h7,Bool.true_or]
 ·rw [Y4 hB _ d h8 h8 h9,Bool.or_true]
theorem jX {P:Program} {Q:Exit→Act→World→Prop} {S:World→Prop} {n:Nat} {a:Act} {w:World} {B:List Nat} (hT:eB md ops=T) (hB:ie T.2 B=true) (h:af (eB md ops=T)→af (ie T.2 B=true)→fO P md ops Q S ds n l a w):fO P md ops Q S ds n l a w:=h ⟨hT⟩ ⟨hB⟩
end
/-- The operations of a region, by its number. -/
def yg : Code → Nat → Option (Array Oper)
 | .region id ops _,k=>if id == k then some ops else none
 | .seq a b,k=>match yg a k with
  | some o=>some o
  | none=>yg b k
 | .cond _ a b,k=>match yg a k with
  | some o=>some o
  | none=>yg b k
 | .block _ c,k=>yg c k
 | .loop c,k=>yg c k
 | .scope c,k=>yg c k
 | .rangeFunc _ _ a b,k=>match yg a k with
  | some o=>some o
  | none=>yg b k
 | _,_=>none
def opsOf (f:Func) (k:Nat):Array Oper:=((f.body.bind fun c=>yg c k)).getD #[]
end Go.Proofs.bz.iY
/- Set with little white space, by a program. -/
