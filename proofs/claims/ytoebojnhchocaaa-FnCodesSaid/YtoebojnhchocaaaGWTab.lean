/- Words on rows, worlds and walks that the texts of one law use (chosen by a program out of the seat's printed words). No condition beyond each theorem's own. -/
import Derived.Test.YtoebojnhchocaaaGWLast
import Derived.Test.YtoebojnhchocaaaGWWords
namespace Go.Proofs.cx.jX
open Go.Proofs.cx.fq (ak)
def AX (md:Region.Mode) (o:Oper):List Nat:=(o.after.toList.filter (fun e=>Region.binds md e)).map (fun e=>e.on)
def II (md:Region.Mode) (ops:Array Oper) (i:Nat) (oi:Oper):List Nat:=(List.range ops.size).filter fun j=>!(j == i) && match ops[j]? with
 | some oj=>!(oj.after.any (fun e=>Region.binds md e && e.on == i) || oi.apart ops oj)
 | none=>false
/-- No select in it; for each operation: what must have come up before it, and what may not come up behind it if it is taken first. -/
def fh (md:Region.Mode) (ops:Array Oper):Bool × List (List Nat × List Nat):=(Region.noSelect ops,(List.range ops.size).map fun i=>match ops[i]? with
 | some o=>(AX md o,II md ops i o)
 | none=>([],[]))
def tQ (T:List (List Nat × List Nat)) (l:List Bool) (i:Nat):Bool:=!l.getD i true && match T[i]? with
 | some r=>r.1.all (fun j=>l.getD j false)
 | none=>false
def apl (T:List (List Nat × List Nat)) (l:List Bool):List Nat:=(List.range T.length).filter (tQ T l)
def Cu (T:List (List Nat × List Nat)) (l:List Bool) (i:Nat):Bool:=match T[i]? with
 | some r=>r.2.all (fun j=>l.getD j true)
 | none=>false
def EZ (T:List (List Nat × List Nat)) (l:List Bool):Bool:=(List.range T.length).all fun j=>!l.getD j false || match T[j]? with
 | some r=>r.1.all (fun k=>l.getD k false)
 | none=>true
def apA (T : List (List Nat × List Nat)) (i : Nat) : Nat → Nat → Bool
 | 0,_=>false
 | fuel+1,d=>match T[d]? with
  | some r=>r.1.any fun j=>j == i || apA T i fuel j
  | none=>false
def F7 (T:List (List Nat × List Nat)) (l:List Bool) (ds:List Nat) (i:Nat):Bool:=ds.all fun d=>l.getD d true || apA T i T.length d
section
variable {md:Region.Mode} {ops:Array Oper} {T:Bool × List (List Nat × List Nat)} {l l' li lj lk:Array Bool} {ds:List Nat} {i j k:Nat}
theorem gd (l:Array Bool) (j:Nat) (b:Bool):l.getD j b=l.toList.getD j b:=by simp [Array.getD_eq_getD_getElem?,List.getD_eq_getElem?_getD]
theorem SY (o:Oper) (p:Nat→Bool):o.after.all (fun e=>!Region.binds md e || p e.on)=(AX md o).all p:=by
 unfold AX
 rw [← Array.all_toList]
 induction o.after.toList with
 | nil=>rfl
 | cons e r ih =>
  rw [List.all_cons,ih,List.filter_cons]
  cases h:Region.binds md e<;>simp
theorem adY (o:Oper) (p:Nat→Bool):o.after.any (fun e=>Region.binds md e && p e.on)=(AX md o).any p:=by
 unfold AX
 rw [← Array.any_toList]
 induction o.after.toList with
 | nil=>rfl
 | cons e r ih =>
  rw [List.any_cons,ih,List.filter_cons]
  cases h:Region.binds md e<;>simp
theorem Gg:(fh md ops).2.length=ops.size:=by simp [fh]
theorem Gi {o:Oper} (h:ops[i]?=some o):(fh md ops).2[i]?=some (AX md o,II md ops i o):=by
 have hi:=(Array.getElem?_eq_some_iff.1 h).1
 unfold fh
 rw [List.getElem?_map,List.getElem?_range hi,Option.map_some,h]
theorem Gh (h:ops[i]?=none):(fh md ops).2[i]?=none:=by
 have hi:ops.size≤i:=Array.getElem?_eq_none_iff.1 h
 exact List.getElem?_eq_none (by rw [Gg];exact hi)
theorem aer:tQ (fh md ops).2 l.toList i=(!l.getD i true && ((ops[i]?).map (·.after.all fun e=>!Region.binds md e || l.getD e.on false)).getD false):=by
 unfold tQ
 rw [gd]
 cases h:ops[i]? with
 | none=>rw [Gh h];rfl
 | some o =>
  rw [Gi h]
  simp only [Option.map_some,Option.getD_some]
  rw [← SY]
  simp only [gd]
theorem DS:Region.ready md ops l=apl (fh md ops).2 l.toList:=by
 unfold Region.ready apl
 rw [Gg]
 refine List.filter_congr (fun i _=>?_)
 rw [aer]
theorem Pr:Region.free md ops l i=Cu (fh md ops).2 l.toList i:=by
 unfold Region.free Cu
 cases h:ops[i]? with
 | none=>rw [Gh h]
 | some oi =>
  rw [Gi h]
  simp only [II]
  rw [List.all_filter]
  congr 1
  funext j
  rw [gd]
  cases hj:ops[j]? with
  | none=>cases (j == i)<;>cases (l.toList.getD j true)<;>simp
  | some oj =>
   cases (j == i)<;>cases (l.toList.getD j true)<;>cases (oj.after.any (fun e=>Region.binds md e && e.on == i) || oi.apart ops oj)<;>simp_all
theorem YC:Region.Cf md ops l=EZ (fh md ops).2 l.toList:=by
 unfold Region.Cf EZ
 rw [Gg]
 congr 1
 funext j
 rw [gd]
 cases h:ops[j]? with
 | none=>rw [Gh h]
 | some o =>
  rw [Gi h]
  simp only
  rw [← SY]
  simp only [gd]
theorem Th : ∀ (fuel d : Nat), Region.rG md ops i fuel d = apA (fh md ops).2 i fuel d
 | 0,_=>rfl
 | fuel+1,d=>by
  unfold Region.rG apA
  cases h:ops[d]? with
  | none=>rw [Gh h]
  | some o =>
   rw [Gi h]
   simp only
   rw [← adY]
   congr 1
   funext e
   rw [Th fuel]
theorem adJ:Region.F6 md ops l ds i=F7 (fh md ops).2 l.toList ds i:=by
 unfold Region.F6 F7
 rw [Gg]
 congr 1
 funext d
 rw [gd,Th]
theorem Tj (h:tQ T.2 l.toList i=true) (hT:fh md ops=T):(Region.ready md ops l).contains i=true:=by
 subst hT
 rw [DS]
 unfold apl
 rw [List.contains_iff_mem,List.mem_filter,List.mem_range]
 refine ⟨?_,h⟩
 unfold tQ at h
 rw [Bool.and_eq_true] at h
 cases hq:(fh md ops).2[i]? with
 | none=>rw [hq] at h;simp at h
 | some r=>exact (List.getElem?_eq_some_iff.1 hq).1
theorem Lz (h:(l.toList.set i true == l'.toList)=true):(l.setIfInBounds i true == l')=true:=by
 rw [beq_iff_eq] at h ⊢
 apply Array.ext'
 rw [Array.toList_setIfInBounds]
 exact h
def Iq (T:Bool × List (List Nat × List Nat)) (l l':List Bool) (i:Nat):Bool:=T.1 && Cu T.2 l i && tQ T.2 l i && (l.set i true == l')
/-- pure_'s condition out of the table. -/
theorem W6 (hT:fh md ops=T) (h:Iq T l.toList l'.toList i=true):EP md ops l l' i=true:=by
 simp only [Iq,Bool.and_eq_true] at h
 obtain ⟨⟨⟨h1,h2⟩,h3⟩,h4⟩:=h
 have h5:=Tj h3 hT
 have h6:=Lz h4
 subst hT
 simp only [EP,Bool.and_eq_true]
 exact ⟨⟨⟨h1,by rw [Pr];exact h2⟩,h5⟩,h6⟩
def LI (T:Bool × List (List Nat × List Nat)) (ds:List Nat) (l l':List Bool) (i:Nat):Bool:=T.1 && Cu T.2 l i && tQ T.2 l i && EZ T.2 l && F7 T.2 l ds i && (l.set i true == l')
/-- take_'s. -/
theorem ae5 (hT:fh md ops=T) (h:LI T ds l.toList l'.toList i=true):DV md ops ds l l' i=true:=by
 simp only [LI,Bool.and_eq_true] at h
 obtain ⟨⟨⟨⟨⟨h1,h2⟩,h3⟩,h4⟩,h5⟩,h6⟩:=h
 have h7:=Tj h3 hT
 have h8:=Lz h6
 subst hT
 simp only [DV,Bool.and_eq_true]
 exact ⟨⟨⟨⟨⟨h1,by rw [Pr];exact h2⟩,h7⟩,by rw [YC];exact h4⟩,by rw [adJ];exact h5⟩,h8⟩
/-- one_'s and last_'s. -/
theorem j7 (hT:fh md ops=T) (h:(apl T.2 l.toList == [i] && l.toList.set i true == l'.toList)=true):apB md ops l l' i=true:=by
 simp only [Bool.and_eq_true] at h
 obtain ⟨h1,h2⟩:=h
 subst hT
 simp only [apB,Bool.and_eq_true]
 exact ⟨by rw [DS];exact h1,Lz h2⟩
/-- done_'s. -/
theorem qF (hT:fh md ops=T) (h:(apl T.2 l.toList == [])=true):(Region.ready md ops l == [])=true:=by
 subst hT
 rw [DS]
 exact h
/-- What d waits for, as_ bits: told in the table (B), checked in one pass: each bit is a need of d, or a bit of an earlier need's. -/
def rI (B : List Nat) (d : Nat) : List Nat → Nat
 | []=>0
 | n :: r=>(2 ^ n ||| (if n < d then B.getD n 0 else 0)) ||| rI B d r
def kN (T:List (List Nat × List Nat)) (B:List Nat):Bool:=(List.range T.length).all fun d=>match T[d]? with
 | some r=>(B.getD d 0 ||| rI B d r.1) == rI B d r.1
 | none=>false
theorem za {B : List Nat} {d i : Nat} : ∀ {ns : List Nat}, (rI B d ns).testBit i = true → ∃ n ∈ ns, n = i ∨ (n < d ∧ (B.getD n 0).testBit i = true)
 | [],h=>by simp [rI] at h
 | n :: r,h=>by
  unfold rI at h
  rw [Nat.testBit_or,Nat.testBit_or,Bool.or_eq_true,Bool.or_eq_true] at h
  rcases h with (h|h)|h
  ·rw [Nat.testBit_two_pow] at h
   exact ⟨n,List.mem_cons_self,.inl (by simpa using h)⟩
  ·by_cases hn : n < d
   ·rw [if_pos hn] at h
    exact ⟨n,List.mem_cons_self,.inr ⟨hn,h⟩⟩
   ·rw [if_neg hn] at h
    simp at h
  ·obtain ⟨m, hm, h2⟩ := za h
   exact ⟨m,List.mem_cons_of_mem _ hm,h2⟩
theorem Tg {T : List (List Nat × List Nat)} {B : List Nat} (hB : kN T B = true) : ∀ (fuel d : Nat), d < fuel → d < T.length → (B.getD d 0).testBit i = true → apA T i fuel d = true
 | 0,d,h,_,_=>by omega
 | fuel+1,d,h,hd,hb=>by
  have h1:=List.all_eq_true.1 hB d (List.mem_range.2 hd)
  cases hr:T[d]? with
  | none=>rw [hr] at h1;simp at h1
  | some r =>
   rw [hr] at h1
   simp only [beq_iff_eq] at h1
   have h2:(rI B d r.1).testBit i=true:=by rw [← h1,Nat.testBit_or,hb,Bool.true_or]
   obtain ⟨n,hn,h3⟩:=za h2
   unfold apA
   rw [hr]
   simp only
   rw [List.any_eq_true]
   refine ⟨n,hn,?_⟩
   rcases h3 with rfl|⟨h4,h5⟩
   ·simp
   ·rw [Tg hB fuel n (by omega) (by omega) h5,Bool.or_true]
def SN (T:List (List Nat × List Nat)) (B:List Nat) (l:List Bool) (ds:List Nat) (i:Nat):Bool:=ds.all fun d=>l.getD d true || (decide (d < T.length) && (B.getD d 0).testBit i)
def LJ (T:Bool × List (List Nat × List Nat)) (B:List Nat) (ds:List Nat) (l l':List Bool) (i:Nat):Bool:=T.1 && Cu T.2 l i && tQ T.2 l i && EZ T.2 l && SN T.2 B l ds i && (l.set i true == l')
/-- take_'s, by the bits. -/
theorem ae6 {B:List Nat} (hT:fh md ops=T) (hB:kN T.2 B=true) (h:LJ T B ds l.toList l'.toList i=true):DV md ops ds l l' i=true:=by
 refine ae5 hT ?_
 simp only [LJ,LI,Bool.and_eq_true] at h ⊢
 obtain ⟨⟨⟨⟨⟨h1,h2⟩,h3⟩,h4⟩,h5⟩,h6⟩:=h
 refine ⟨⟨⟨⟨⟨h1,h2⟩,h3⟩,h4⟩,?_⟩,h6⟩
 unfold SN at h5
 unfold F7
 rw [List.all_eq_true] at h5 ⊢
 intro d hd
 have h7:=h5 d hd
 rw [Bool.or_eq_true,Bool.and_eq_true,decide_eq_true_eq] at h7
 rcases h7 with h7|⟨h8,h9⟩
 ·rw [h7,Bool.true_or]
 ·rw [Tg hB _ d h8 h8 h9,Bool.or_true]
theorem qt {P:Program} {Q:Exit→Act→World→Prop} {S:World→Prop} {n:Nat} {a:Act} {w:World} {B:List Nat} (hT:fh md ops=T) (hB:kN T.2 B=true) (h:ak (fh md ops=T)→ak (kN T.2 B=true)→gL P md ops Q S ds n l a w):gL P md ops Q S ds n l a w:=h ⟨hT⟩ ⟨hB⟩
end
/-- The operations of a region, by its number. -/
def tP : Code → Nat → Option (Array Oper)
 | .region id ops _,k=>if id == k then some ops else none
 | .seq a b,k=>match tP a k with
  | some o=>some o
  | none=>tP b k
 | .cond _ a b,k=>match tP a k with
  | some o=>some o
  | none=>tP b k
 | .block _ c,k=>tP c k
 | .loop c,k=>tP c k
 | .scope c,k=>tP c k
 | .rangeFunc _ _ a b,k=>match tP a k with
  | some o=>some o
  | none=>tP b k
 | _,_=>none
def opsOf (f:Func) (k:Nat):Array Oper:=((f.body.bind fun c=>tP c k)).getD #[]
end Go.Proofs.cx.jX
/- Set with little white space, by a program. -/
