/- Words on rows, worlds and walks that the texts of one law use (chosen by a program out of the seat's printed words). No condition beyond each theorem's own. -/
import Derived.Test.YtoebojnhchocaaaBWLast
import Derived.Test.YtoebojnhchocaaaBWWords
namespace Go.Proofs.bC.iZ
open Go.Proofs.bC.eg (ak)
def Bt (md:Region.Mode) (o:Oper):List Nat:=(o.after.toList.filter (fun e=>Region.binds md e)).map (fun e=>e.on)
def Jn (md:Region.Mode) (ops:Array Oper) (i:Nat) (oi:Oper):List Nat:=(List.range ops.size).filter fun j=>!(j == i) && match ops[j]? with
 | some oj=>!(oj.after.any (fun e=>Region.binds md e && e.on == i) || oi.apart ops oj)
 | none=>false
/-- No select in it; for each operation: what must have come up before it, and what may not come up behind it if it is taken first. -/
def gY (md:Region.Mode) (ops:Array Oper):Bool × List (List Nat × List Nat):=(Region.noSelect ops,(List.range ops.size).map fun i=>match ops[i]? with
 | some o=>(Bt md o,Jn md ops i o)
 | none=>([],[]))
def yo (T:List (List Nat × List Nat)) (l:List Bool) (i:Nat):Bool:=!l.getD i true && match T[i]? with
 | some r=>r.1.all (fun j=>l.getD j false)
 | none=>false
def am6 (T:List (List Nat × List Nat)) (l:List Bool):List Nat:=(List.range T.length).filter (yo T l)
def Cx (T:List (List Nat × List Nat)) (l:List Bool) (i:Nat):Bool:=match T[i]? with
 | some r=>r.2.all (fun j=>l.getD j true)
 | none=>false
def Fs (T:List (List Nat × List Nat)) (l:List Bool):Bool:=(List.range T.length).all fun j=>!l.getD j false || match T[j]? with
 | some r=>r.1.all (fun k=>l.getD k false)
 | none=>true
def Bw (T : List (List Nat × List Nat)) (i : Nat) : Nat → Nat → Bool
 | 0,_=>false
 | fuel+1,d=>match T[d]? with
  | some r=>r.1.any fun j=>j == i || Bw T i fuel j
  | none=>false
def Gz (T:List (List Nat × List Nat)) (l:List Bool) (ds:List Nat) (i:Nat):Bool:=ds.all fun d=>l.getD d true || Bw T i T.length d
section
variable {md:Region.Mode} {ops:Array Oper} {T:Bool × List (List Nat × List Nat)} {l l' li lj lk:Array Bool} {ds:List Nat} {i j k:Nat}
theorem gd (l:Array Bool) (j:Nat) (b:Bool):l.getD j b=l.toList.getD j b:=by simp [Array.getD_eq_getD_getElem?,List.getD_eq_getElem?_getD]
theorem S0 (o:Oper) (p:Nat→Bool):o.after.all (fun e=>!Region.binds md e || p e.on)=(Bt md o).all p:=by
 unfold Bt
 rw [← Array.all_toList]
 induction o.after.toList with
 | nil=>rfl
 | cons e r ih =>
  rw [List.all_cons,ih,List.filter_cons]
  cases h:Region.binds md e<;>simp
theorem adJ (o:Oper) (p:Nat→Bool):o.after.any (fun e=>Region.binds md e && p e.on)=(Bt md o).any p:=by
 unfold Bt
 rw [← Array.any_toList]
 induction o.after.toList with
 | nil=>rfl
 | cons e r ih =>
  rw [List.any_cons,ih,List.filter_cons]
  cases h:Region.binds md e<;>simp
theorem GY:(gY md ops).2.length=ops.size:=by simp [gY]
theorem G0 {o:Oper} (h:ops[i]?=some o):(gY md ops).2[i]?=some (Bt md o,Jn md ops i o):=by
 have hi:=(Array.getElem?_eq_some_iff.1 h).1
 unfold gY
 rw [List.getElem?_map,List.getElem?_range hi,Option.map_some,h]
theorem GZ (h:ops[i]?=none):(gY md ops).2[i]?=none:=by
 have hi:ops.size≤i:=Array.getElem?_eq_none_iff.1 h
 exact List.getElem?_eq_none (by rw [GY];exact hi)
theorem aed:yo (gY md ops).2 l.toList i=(!l.getD i true && ((ops[i]?).map (·.after.all fun e=>!Region.binds md e || l.getD e.on false)).getD false):=by
 unfold yo
 rw [gd]
 cases h:ops[i]? with
 | none=>rw [GZ h];rfl
 | some o =>
  rw [G0 h]
  simp only [Option.map_some,Option.getD_some]
  rw [← S0]
  simp only [gd]
theorem D9:Region.ready md ops l=am6 (gY md ops).2 l.toList:=by
 unfold Region.ready am6
 rw [GY]
 refine List.filter_congr (fun i _=>?_)
 rw [aed]
theorem Pq:Region.free md ops l i=Cx (gY md ops).2 l.toList i:=by
 unfold Region.free Cx
 cases h:ops[i]? with
 | none=>rw [GZ h]
 | some oi =>
  rw [G0 h]
  simp only [Jn]
  rw [List.all_filter]
  congr 1
  funext j
  rw [gd]
  cases hj:ops[j]? with
  | none=>cases (j == i)<;>cases (l.toList.getD j true)<;>simp
  | some oj =>
   cases (j == i)<;>cases (l.toList.getD j true)<;>cases (oj.after.any (fun e=>Region.binds md e && e.on == i) || oi.apart ops oj)<;>simp_all
theorem X_:Region.Co md ops l=Fs (gY md ops).2 l.toList:=by
 unfold Region.Co Fs
 rw [GY]
 congr 1
 funext j
 rw [gd]
 cases h:ops[j]? with
 | none=>rw [GZ h]
 | some o =>
  rw [G0 h]
  simp only
  rw [← S0]
  simp only [gd]
theorem Th : ∀ (fuel d : Nat), Region.sJ md ops i fuel d = Bw (gY md ops).2 i fuel d
 | 0,_=>rfl
 | fuel+1,d=>by
  unfold Region.sJ Bw
  cases h:ops[d]? with
  | none=>rw [GZ h]
  | some o =>
   rw [G0 h]
   simp only
   rw [← adJ]
   congr 1
   funext e
   rw [Th fuel]
theorem adp:Region.Gy md ops l ds i=Gz (gY md ops).2 l.toList ds i:=by
 unfold Region.Gy Gz
 rw [GY]
 congr 1
 funext d
 rw [gd,Th]
theorem Tj (h:yo T.2 l.toList i=true) (hT:gY md ops=T):(Region.ready md ops l).contains i=true:=by
 subst hT
 rw [D9]
 unfold am6
 rw [List.contains_iff_mem,List.mem_filter,List.mem_range]
 refine ⟨?_,h⟩
 unfold yo at h
 rw [Bool.and_eq_true] at h
 cases hq:(gY md ops).2[i]? with
 | none=>rw [hq] at h;simp at h
 | some r=>exact (List.getElem?_eq_some_iff.1 hq).1
theorem yt (h:(l.toList.set i true == l'.toList)=true):(l.setIfInBounds i true == l')=true:=by
 rw [beq_iff_eq] at h ⊢
 apply Array.ext'
 rw [Array.toList_setIfInBounds]
 exact h
def I6 (T:Bool × List (List Nat × List Nat)) (l l':List Bool) (i:Nat):Bool:=T.1 && Cx T.2 l i && yo T.2 l i && (l.set i true == l')
/-- pure_'s condition out of the table. -/
theorem WS (hT:gY md ops=T) (h:I6 T l.toList l'.toList i=true):Ff md ops l l' i=true:=by
 simp only [I6,Bool.and_eq_true] at h
 obtain ⟨⟨⟨h1,h2⟩,h3⟩,h4⟩:=h
 have h5:=Tj h3 hT
 have h6:=yt h4
 subst hT
 simp only [Ff,Bool.and_eq_true]
 exact ⟨⟨⟨h1,by rw [Pq];exact h2⟩,h5⟩,h6⟩
def L9 (T:Bool × List (List Nat × List Nat)) (ds:List Nat) (l l':List Bool) (i:Nat):Bool:=T.1 && Cx T.2 l i && yo T.2 l i && Fs T.2 l && Gz T.2 l ds i && (l.set i true == l')
/-- take_'s. -/
theorem aeY (hT:gY md ops=T) (h:L9 T ds l.toList l'.toList i=true):Ef md ops ds l l' i=true:=by
 simp only [L9,Bool.and_eq_true] at h
 obtain ⟨⟨⟨⟨⟨h1,h2⟩,h3⟩,h4⟩,h5⟩,h6⟩:=h
 have h7:=Tj h3 hT
 have h8:=yt h6
 subst hT
 simp only [Ef,Bool.and_eq_true]
 exact ⟨⟨⟨⟨⟨h1,by rw [Pq];exact h2⟩,h7⟩,by rw [X_];exact h4⟩,by rw [adp];exact h5⟩,h8⟩
/-- one_'s and last_'s. -/
theorem lG (hT:gY md ops=T) (h:(am6 T.2 l.toList == [i] && l.toList.set i true == l'.toList)=true):yp md ops l l' i=true:=by
 simp only [Bool.and_eq_true] at h
 obtain ⟨h1,h2⟩:=h
 subst hT
 simp only [yp,Bool.and_eq_true]
 exact ⟨by rw [D9];exact h1,yt h2⟩
theorem Ei (hT:gY md ops=T) (h:(am6 T.2 l.toList == [i,j] && l.toList.set i true == li.toList && l.toList.set j true == lj.toList)=true):(Region.ready md ops l == [i,j] && l.setIfInBounds i true == li && l.setIfInBounds j true == lj)=true:=by
 simp only [Bool.and_eq_true] at h ⊢
 obtain ⟨⟨h1,h2⟩,h3⟩:=h
 subst hT
 exact ⟨⟨by rw [D9];exact h1,yt h2⟩,yt h3⟩
theorem Ty (hT : gY md ops = T) (h : (am6 T.2 l.toList == [i, j, k] && l.toList.set i true == li.toList && l.toList.set j true == lj.toList && l.toList.set k true == lk.toList) = true) :
  (Region.ready md ops l == [i,j,k] && l.setIfInBounds i true == li && l.setIfInBounds j true == lj && l.setIfInBounds k true == lk)=true:=by
 simp only [Bool.and_eq_true] at h ⊢
 obtain ⟨⟨⟨h1,h2⟩,h3⟩,h4⟩:=h
 subst hT
 exact ⟨⟨⟨by rw [D9];exact h1,yt h2⟩,yt h3⟩,yt h4⟩
/-- done_'s. -/
theorem rz (hT:gY md ops=T) (h:(am6 T.2 l.toList == [])=true):(Region.ready md ops l == [])=true:=by
 subst hT
 rw [D9]
 exact h
/-- What d waits for, as_ bits: told in the table (B), checked in one pass: each bit is a need of d, or a bit of an earlier need's. -/
def z6 (B : List Nat) (d : Nat) : List Nat → Nat
 | []=>0
 | n :: r=>(2 ^ n ||| (if n < d then B.getD n 0 else 0)) ||| z6 B d r
def nV (T:List (List Nat × List Nat)) (B:List Nat):Bool:=(List.range T.length).all fun d=>match T[d]? with
 | some r=>(B.getD d 0 ||| z6 B d r.1) == z6 B d r.1
 | none=>false
theorem TB {B : List Nat} {d i : Nat} : ∀ {ns : List Nat}, (z6 B d ns).testBit i = true → ∃ n ∈ ns, n = i ∨ (n < d ∧ (B.getD n 0).testBit i = true)
 | [],h=>by simp [z6] at h
 | n :: r,h=>by
  unfold z6 at h
  rw [Nat.testBit_or,Nat.testBit_or,Bool.or_eq_true,Bool.or_eq_true] at h
  rcases h with (h|h)|h
  ·rw [Nat.testBit_two_pow] at h
   exact ⟨n,List.mem_cons_self,.inl (by simpa using h)⟩
  ·by_cases hn : n < d
   ·rw [if_pos hn] at h
    exact ⟨n,List.mem_cons_self,.inr ⟨hn,h⟩⟩
   ·rw [if_neg hn] at h
    simp at h
  ·obtain ⟨m, hm, h2⟩ := TB h
   exact ⟨m,List.mem_cons_of_mem _ hm,h2⟩
theorem Tg {T : List (List Nat × List Nat)} {B : List Nat} (hB : nV T B = true) : ∀ (fuel d : Nat), d < fuel → d < T.length → (B.getD d 0).testBit i = true → Bw T i fuel d = true
 | 0,d,h,_,_=>by omega
 | fuel+1,d,h,hd,hb=>by
  have h1:=List.all_eq_true.1 hB d (List.mem_range.2 hd)
  cases hr:T[d]? with
  | none=>rw [hr] at h1;simp at h1
  | some r =>
   rw [hr] at h1
   simp only [beq_iff_eq] at h1
   have h2:(z6 B d r.1).testBit i=true:=by rw [← h1,Nat.testBit_or,hb,Bool.true_or]
   obtain ⟨n,hn,h3⟩:=TB h2
   unfold Bw
   rw [hr]
   simp only
   rw [List.any_eq_true]
   refine ⟨n,hn,?_⟩
   rcases h3 with rfl|⟨h4,h5⟩
   ·simp
   ·rw [Tg hB fuel n (by omega) (by omega) h5,Bool.or_true]
def SL (T:List (List Nat × List Nat)) (B:List Nat) (l:List Bool) (ds:List Nat) (i:Nat):Bool:=ds.all fun d=>l.getD d true || (decide (d < T.length) && (B.getD d 0).testBit i)
def L_ (T:Bool × List (List Nat × List Nat)) (B:List Nat) (ds:List Nat) (l l':List Bool) (i:Nat):Bool:=T.1 && Cx T.2 l i && yo T.2 l i && Fs T.2 l && SL T.2 B l ds i && (l.set i true == l')
/-- take_'s, by the bits. -/
theorem aeZ {B:List Nat} (hT:gY md ops=T) (hB:nV T.2 B=true) (h:L_ T B ds l.toList l'.toList i=true):Ef md ops ds l l' i=true:=by
 refine aeY hT ?_
 simp only [L_,L9,Bool.and_eq_true] at h ⊢
 obtain ⟨⟨⟨⟨⟨h1,h2⟩,h3⟩,h4⟩,h5⟩,h6⟩:=h
 refine ⟨⟨⟨⟨⟨h1,h2⟩,h3⟩,h4⟩,?_⟩,h6⟩
 unfold SL at h5
 unfold Gz
 rw [List.all_eq_true] at h5 ⊢
 intro d hd
 have h7:=h5 d hd
 rw [Bool.or_eq_true,Bool.and_eq_true,decide_eq_true_eq] at h7
 rcases h7 with h7|⟨h8,h9⟩
 ·rw [h7,Bool.true_or]
 ·rw [Tg hB _ d h8 h8 h9,Bool.or_true]
theorem rQ {P:Program} {Q:Exit→Act→World→Prop} {S:World→Prop} {n:Nat} {a:Act} {w:World} {B:List Nat} (hT:gY md ops=T) (hB:nV T.2 B=true) (h:ak (gY md ops=T)→ak (nV T.2 B=true)→eK P md ops Q S ds n l a w):eK P md ops Q S ds n l a w:=h ⟨hT⟩ ⟨hB⟩
end
/-- The operations of a region, by its number. -/
def amA : Code → Nat → Option (Array Oper)
 | .region id ops _,k=>if id == k then some ops else none
 | .seq a b,k=>match amA a k with
  | some o=>some o
  | none=>amA b k
 | .cond _ a b,k=>match amA a k with
  | some o=>some o
  | none=>amA b k
 | .block _ c,k=>amA c k
 | .loop c,k=>amA c k
 | .scope c,k=>amA c k
 | .rangeFunc _ _ a b,k=>match amA a k with
  | some o=>some o
  | none=>amA b k
 | _,_=>none
def opsOf (f:Func) (k:Nat):Array Oper:=((f.body.bind fun c=>amA c k)).getD #[]
end Go.Proofs.bC.iZ
/- Set with little white space, by a program. -/
