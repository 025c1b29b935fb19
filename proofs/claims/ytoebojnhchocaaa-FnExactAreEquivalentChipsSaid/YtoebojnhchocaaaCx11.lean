/- The functions that one law reaches, each as a Lean function, and that Go's call comes to what it says. Condition of each: that the Lean function answers (is not none). -/
import Derived.Test.YtoebojnhchocaaaCx0
import Derived.Test.YtoebojnhchocaaaCx9
import Derived.Test.YtoebojnhchocaaaCx10
namespace Go.Proofs.Ytoebojnhchocaaa.C
open Go.RowKit Go.Proofs.bI.en Go.Proofs.bI.je Go.Proofs.bI.jC
attribute [local go_sem] max2_int min2_int max_two min_two max_three min_three max_four min_four   -- for this text's walks alone
set_option linter.unusedVariables false
set_option linter.unusedSimpArgs false
/-! ### F190: function 190 -/
def qD.f (k:Nat) (af:Int) (aa:List (List Int)):Option (Int):=(cY.f k af aa).bind fun t102=>((iR.f k t102).bind fun t105=>(some t105))
theorem qD.mono:∀ a0 a1 k,aj (qD.f k a0 a1) (qD.f (k+1) a0 a1):=by
 intro a0 a1 k
 unfold qD.f
 repeat' first
  | (with_reducible first|exact cY.mono _ _ _|exact iR.mono _ _|exact aj.refl _|exact aj.none _|refine aj.ite ?_ ?_|refine aj.bind ?_ (fun _=>?_))
  | exact cY.mono _ _ _|exact iR.mono _ _|exact aj.none _|refine aj.ite ?_ ?_|refine aj.bind ?_ (fun _=>?_)
set_option maxHeartbeats 8000000 in
set_option maxRecDepth 100000 in
theorem qD.calls (k : Nat) (af : Int) (aq : Option Addr) (ak : Nat) (aa : List (List Int)) (r : Int) (w : World) (akv : Kd.C (Kd.slice 2 (Kd.int .i64)) w aq aa.length aa) (akw : aa.length ≤ ak) (h : qD.f k af aa = some r) :
  Calls Try.prog 190 #[.agg #[.int .i64 af,.slice aq aa.length ak]] w fun e w'=>e=.returned (.int .i64 r)∧Below w.heap.size w w':=by
 have j8:=Try.underlying31
 have bU:=k0 akv
 have cG:=k0 akw
 clear akv akw
 have HB:=k0 (Below.refl w.heap.size w)
 have H:((cY.f k af aa).bind fun t102=>((iR.f k t102).bind fun t105=>(some t105)))=some r:=h
 clear h
 replace H:=Option.bind_eq_some_iff.mp H
 obtain ⟨t102,lM,H⟩:=H
 replace H:((iR.f k t102).bind fun t105=>(some t105))=some r:=H
 have A2:=k0 lM
 clear lM
 replace H:=Option.bind_eq_some_iff.mp H
 obtain ⟨t105,pV,H⟩:=H
 replace H:(some t105)=some r:=H
 have A3:=k0 pV
 clear pV
 obtain rfl:=Option.some.inj H
 go_enter Try.func190,Try.ntmps190
 go_wp2_with (first|((with_reducible refine cj (N:=1) rfl ?_);refine dJ ?hg (N:=1) ?hd (cs:=#[.int .i64 af,.slice aq aa.length ak]) (t:=31) ?hr ?_;(case hd=>rfl);(case hg=>rfl);(case hr=>first|(go_simp;done)|(go_simp;rfl));intro ai hg w4 aK hb;have ag:=k0 (aK);have aks:=k0 ((by rw [hg];exact (aU bl):w.heap.size≤ai));have ej:=aks;replace HB:=k0 (aI bl hb);clear hb aK hg;have sJ:w4.cell? ⟨ai,0,none⟩=some (.int .i64 af):=(av ag.out 0).trans rfl;have sK:w4.cell? ⟨ai,1,none⟩=some (.slice aq aa.length ak):=(av ag.out 1).trans rfl;have sM:=aH ag.out 0;have sN:=aH ag.out 1)|((with_reducible refine cZ (f:=229) rfl ?_);refine c_ (some 4) rfl rfl Try.func229 (by kernel_rfl) rfl #[.agg #[.int .i64 af,.slice aq aa.length ak],.func (.func 230) #[] #[]] rfl gm ?_;(with_reducible refine (cY.calls k af _ _ aa t102 _ ?akn ?aT A2.out).mono ?_);(case akn=>exact aC (Kd.bA bU.out HB.out));(case aT=>exact cG.out);rintro e w6 ⟨dx,rfl,ake,hb⟩;refine ⟨_,rfl,?_⟩;have bh:=k0 (Kd.dL ake (aU bl));replace ag:=k0 (akj (g:=ai) (o:=sO af aq aa ak 31) bk hb);replace HB:=k0 (aI bl hb);(try clear hb);(try clear ake);obtain ⟨Tc,Xn,X_⟩:=Kd.eK bh.out;subst X_)|((with_reducible refine cZ (f:=228) rfl ?_);refine c_ (some 5) rfl rfl Try.func228 (by kernel_rfl) rfl #[.slice Tc t102.length Xn] rfl gm ?_;(with_reducible refine (iR.calls k _ _ t102 t105 _ ?akn ?aT A3.out).mono ?_);(case akn=>exact aC ((Kd.bu bh.out).2.2));(case aT=>exact (Kd.bu bh.out).2.1);rintro e w' ⟨rfl,⟨nd,rfl⟩⟩;refine ⟨_,rfl,?_⟩))
 go_ret
 exact ⟨by first|rfl|(simp [bq,bt]<;>rfl)|(simp [*,bq,bt]<;>rfl),bl⟩
-- NOT PRINTED: function 103 (impl_connectedCode)
/-! ### F179: function 179 -/
def zD.f (af:Int) (aa:List (List Int)) (a1:Int):Option (Bool):=(gO.f a1 0 (wrap64 (af - 1))).bind fun t102=>(some t102)
set_option maxHeartbeats 8000000 in
set_option maxRecDepth 100000 in
theorem zD.calls (af : Int) (aq : Option Addr) (ak : Nat) (aa : List (List Int)) (a1 : Int) (r : Bool) (w : World) (akv : Kd.C (Kd.slice 2 (Kd.int .i64)) w aq aa.length aa) (akw : aa.length ≤ ak) (h : zD.f af aa a1 = some r) :
  Calls Try.prog 179 #[.agg #[.int .i64 af,.slice aq aa.length ak],.int .i64 a1] w fun e w'=>e=.returned (.bool r)∧Below w.heap.size w w':=by
 have j8:=Try.underlying31
 have bU:=k0 akv
 have cG:=k0 akw
 clear akv akw
 have HB:=k0 (Below.refl w.heap.size w)
 have H:((gO.f a1 0 (wrap64 (af - 1))).bind fun t102=>(some t102))=some r:=h
 clear h
 replace H:=Option.bind_eq_some_iff.mp H
 obtain ⟨t102,pV,H⟩:=H
 replace H:(some t102)=some r:=H
 have A3:=k0 pV
 clear pV
 obtain rfl:=Option.some.inj H
 go_enter Try.func179,Try.ntmps179
 go_wp2_with (first|((with_reducible refine cj (N:=2) rfl ?_);refine dJ ?hg (N:=2) ?hd (cs:=#[.int .i64 af,.slice aq aa.length ak]) (t:=31) ?hr ?_;(case hd=>rfl);(case hg=>rfl);(case hr=>first|(go_simp;done)|(go_simp;rfl));intro ai hg w4 aK hb;have ag:=k0 (aK);have aks:=k0 ((by rw [hg];exact (aU bl):w.heap.size≤ai));have ej:=aks;replace HB:=k0 (aI bl hb);clear hb aK hg;have sJ:w4.cell? ⟨ai,0,none⟩=some (.int .i64 af):=(av ag.out 0).trans rfl;have sK:w4.cell? ⟨ai,1,none⟩=some (.slice aq aa.length ak):=(av ag.out 1).trans rfl;have sM:=aH ag.out 0;have sN:=aH ag.out 1)|((with_reducible refine cZ (f:=194) rfl ?_);refine c_ (some 9) rfl rfl Try.func194 (by kernel_rfl) rfl #[.int .i64 a1,.int .i64 0,.int .i64 (wrap64 (af - 1))] rfl gm ?_;(with_reducible refine (gO.calls a1 0 (wrap64 (af - 1)) t102 _ A3.out).mono ?_);rintro e w' ⟨rfl,⟨nd,rfl⟩⟩;refine ⟨_,rfl,?_⟩))
 go_ret
 exact ⟨by first|rfl|(simp [bq,bt]<;>rfl)|(simp [*,bq,bt]<;>rfl),bl⟩
/-! ### F182: function 182 -/
def k6 (x:Int):Bool:=!(decide ((-200)≤x) && decide (x≤200))
theorem VC (x:Int) (w1:World):Calls Try.prog 221 #[.int .i64 x] w1 fun e w'=>e=.returned (.bool (k6 x))∧bP w1 w':=by
 have h:gO.f x (-200) 200=some (decide ((-200)≤x) && decide (x≤200)):=by
  unfold gO.f
  by_cases h1:(-200)≤x<;>simp [h1]
 have HX:au (k6 x=!(decide ((-200)≤x) && decide (x≤200))):=⟨rfl⟩
 generalize (decide ((-200)≤x) && decide (x≤200))=b at h HX
 go_enter Try.func221,Try.ntmps221
 go_wp2_with (go_at_call 194;refine (gO.calls _ _ _ b _ h).mono ?_;rintro e w' ⟨rfl,⟨nd,rfl⟩⟩)
 go_ret
 exact ⟨by rw [HX.out];rfl,by repeat (first|exact bP.refl _|apply bP.step)⟩
theorem VB (p : Int → Bool) (A : Option Addr) (c : Nat) (l : List Int) (w : World) (hr : Kd.C (Kd.int .i64) w A l.length l)
 (hp:∀ x w1,Below w.heap.size w w1→Calls Try.prog 221 #[.int .i64 x] w1 fun e w'=>e=.returned (.bool (p x))∧Below w1.heap.size w1 w') :
 Calls Try.prog 188 #[.slice A l.length c,.func (.func 221) #[] #[]] w fun e w'=>e=.returned (.int .i64 (idxFrom p l 0))∧Below w.heap.size w w':=by
 have HR:=k0 hr
 have HP:=k0 hp
 have hlen:l.length≤9223372036854775807:=hr.2.1
 clear hr hp
 go_enter Try.func188,Try.ntmps188
 go_wp2_with fail
 go_loopw [8] (fun i wr=>∃ k:Nat,k≤l.length∧i=.int .i64 k∧au (idxFrom p (l.drop k) k=idxFrom p l 0)∧au (Below w.heap.size w wr)) (fun i _=>l.length - (intOf i).toNat)
 case atStart=>exact ⟨0,Nat.zero_le _,rfl,⟨by simp⟩,⟨Below.refl _ _⟩⟩
 case round =>
  obtain ⟨k,hk,rfl,HI,HB⟩:=hrel
  by_cases hlt:k < l.length
  case neg =>
   have HD:au (idxFrom p l 0=-1):=⟨by rw [← HI.out,List.drop_of_length_le (by omega)];rfl⟩
   have hb:decide (k < l.length)=false:=by simp;omega
   go_wp2
   go_ret
   exact ⟨by rw [HD.out];rfl,HB.out⟩
  obtain ⟨ad,e,hcell⟩:=Kd.bH (Kd.bA HR.out HB.out) k (by omega) (by omega)
  cases e
  rw [Int.toNat_natCast] at hcell
  cases hpx:p (rd l k) with
  | true =>
   have HD:au (idxFrom p l 0=k):=⟨by rw [← HI.out,FA p l k hlt,hpx];rfl⟩
   have HX:=k0 hpx
   clear hpx
   go_wp2_with (go_at_call 221;refine (HP.out _ _ HB.out).mono ?_;rw [HX.out];rintro e w' ⟨rfl,cB⟩;have fO:=k0 (aI HB.out cB);clear cB)
   go_ret
   exact ⟨by rw [HD.out];rfl,fO.out⟩
  | false =>
   have HD:au (idxFrom p (l.drop (k+1)) (k+1)=idxFrom p l 0):=⟨by rw [← HI.out,FA p l k hlt,hpx];rfl⟩
   have HX:=k0 hpx
   clear hpx
   go_wp2_with (go_at_call 221;refine (HP.out _ _ HB.out).mono ?_;rw [HX.out];rintro e w' ⟨rfl,cB⟩;have fO:=k0 (aI HB.out cB);clear cB)
   go_roundw
   case rel=>exact ⟨k+1,by omega,by go_num,HD,fO⟩
   case measure=>simp [intOf];omega
theorem VA (p : Int → Bool) (A : Option Addr) (c : Nat) (l : List Int) (w : World) (hr : Kd.C (Kd.int .i64) w A l.length l)
 (hp:∀ x w1,Below w.heap.size w w1→Calls Try.prog 221 #[.int .i64 x] w1 fun e w'=>e=.returned (.bool (p x))∧Below w1.heap.size w1 w') :
 Calls Try.prog 98 #[.slice A l.length c,.func (.func 221) #[] #[]] w fun e w'=>e=.returned (.bool (l.any p))∧Below w.heap.size w w':=by
 have HC:=VB p A c l w hr hp
 have HX:au (l.any p=decide (0≤idxFrom p l 0)):=⟨(Q5 p l 0).symm⟩
 have pW:=k0 HC
 clear HC hr hp
 go_enter Try.func98,Try.ntmps98
 go_wp2_with (go_at_call 188;refine pW.out.mono ?_;rintro e w' ⟨rfl,cB⟩;have fO:=k0 cB;clear cB)
 go_ret
 exact ⟨by rw [HX.out];rfl,fO.out⟩
def r6.f (af:Int) (aa:List (List Int)) (l1:List Int):Option Bool:=some (decide ((l1.length:Int)=af) && !(l1.any k6))
set_option maxHeartbeats 8000000 in
set_option maxRecDepth 100000 in
theorem r6.calls (af : Int) (aq : Option Addr) (ak : Nat) (aa : List (List Int)) (A1 : Option Addr) (c1 : Nat) (l1 : List Int) (r : Bool) (w : World) (akv : Kd.C (Kd.slice 2 (Kd.int .i64)) w aq aa.length aa) (akw : aa.length ≤ ak) (cQ : Kd.C (Kd.int .i64) w A1 l1.length l1) (ef : l1.length ≤ c1) (h : r6.f af aa l1 = some r) :
  Calls Try.prog 182 #[.agg #[.int .i64 af,.slice aq aa.length ak],.slice A1 l1.length c1] w fun e w'=>e=.returned (.bool r)∧Below w.heap.size w w':=by
 have HR:=k0 cQ
 clear akv cQ
 obtain rfl:=Option.some.inj h
 clear h
 by_cases hl:((l1.length:Int) == af)=true
 case neg =>
  have hl':((l1.length:Int) == af)=false:=by simpa using hl
  have HX:au ((decide ((l1.length:Int)=af) && !(l1.any k6))=false):=⟨by simp at hl;simp [hl]⟩
  clear hl
  go_enter Try.func182,Try.ntmps182
  go_wp2
  go_ret
  exact ⟨by rw [HX.out];rfl,((Below.refl _ _).alloc (Nat.le_refl _) _)⟩
 have HX:au ((decide ((l1.length:Int)=af) && !(l1.any k6))=!(l1.any k6)):=⟨by simp at hl;simp [hl]⟩
 have HC:=fun W h=>VA k6 A1 c1 l1 W h (fun x w1 _=>(VC x w1).mono fun e w' ⟨h1,h2⟩=>⟨h1,h2.below⟩)
 have pW:=k0 HC
 clear HC
 go_enter Try.func182,Try.ntmps182
 go_wp2_with (go_at_call 98;refine (pW.out _ (Kd.kK HR.out _)).mono ?_;rintro e w' ⟨rfl,cB⟩;have fO:=k0 (aI ((Below.refl _ _).alloc (Nat.le_refl _) _) cB);clear cB)
 go_ret
 exact ⟨by rw [HX.out];rfl,fO.out⟩
/-! ### F178: function 178 -/
theorem WQ {b1 : Nat} (A : Option Addr) (c : Nat) (l : List Int) (fW : Int) (iQ : Option Addr) (iV : Nat) (eu : List (List Int)) (r : Bool) (w : World) (hr : Kd.C (Kd.int .i64) w A l.length l) (hc : l.length ≤ c) (cQ : Kd.C (Kd.slice 2 (Kd.int .i64)) w iQ eu.length eu) (ef : eu.length ≤ iV) (hb : w.heap[b1]? = some (sO fW iQ eu iV 31)) (h : r6.f fW eu l = some r) :
  Calls Try.prog 181 #[.slice A l.length c,.pointer (some ⟨b1,0,none⟩)] w fun e w'=>e=.returned (.bool (!r))∧Below w.heap.size w w':=by
 have HC:=fun W (hw:Below w.heap.size w W)=>r6.calls fW iQ iV eu A c l r W (Kd.bA cQ hw) ef (Kd.bA hr hw) hc h
 have pW:=k0 HC
 have QJ:w.cell? ⟨b1,0,none⟩=some (.int .i64 fW):=(av hb 0).trans rfl
 have al6:w.cell? ⟨b1,1,none⟩=some (.slice iQ eu.length iV):=(av hb 1).trans rfl
 have Jz:=aH hb 0
 have alG:=aH hb 1
 clear HC hr cQ hb h
 go_enter Try.func181,Try.ntmps181
 go_wp2_with (go_at_call 182;refine (pW.out _ (by repeat (first|exact Below.refl _ _|apply dA|apply akz|apply cP))).mono ?_;rintro e w' ⟨rfl,cB⟩;have fO:=k0 (aI (by repeat (first|exact Below.refl _ _|apply dA|apply akz|apply cP)) cB:Below w.heap.size w w');clear cB)
 go_ret
 exact ⟨by first|rfl|(simp;done),(by repeat (first|exact fO.out|apply dA|apply akz|apply cP))⟩
theorem WO (p : List Int → Option Bool) (b1 : Nat) (A : Option Addr) (c : Nat) (l : List (List Int)) (R : Int) (w : World) (hr : Kd.C (Kd.slice 2 (Kd.int .i64)) w A l.length l)
 (hp:∀ (A':Option Addr) (c':Nat) (x:List Int) (b:Bool) w1,Below w.heap.size w w1→Kd.C (Kd.int .i64) w1 A' x.length x→x.length≤c'→p x=some b→Calls Try.prog 181 #[.slice A' x.length c',.pointer (some ⟨b1,0,none⟩)] w1 fun e w'=>e=.returned (.bool b)∧Below w1.heap.size w1 w') (h:mJ p l 0=some R) :
 Calls Try.prog 220 #[.slice A l.length c,.func (.func 181) #[] #[.pointer (some ⟨b1,0,none⟩)]] w fun e w'=>e=.returned (.int .i64 R)∧Below w.heap.size w w':=by
 have HR:=k0 hr
 have HP:=k0 hp
 have H':=k0 h
 have hlen:l.length≤9223372036854775807:=hr.2.1
 clear hr hp h
 go_enter Try.func220,Try.ntmps220
 go_wp2_with fail
 go_loopw [8] (fun i wr=>∃ k:Nat,k≤l.length∧i=.int .i64 k∧au (mJ p (l.drop k) k=some R)∧au (Below w.heap.size w wr)) (fun i _=>l.length - (intOf i).toNat)
 case atStart=>exact ⟨0,Nat.zero_le _,rfl,⟨by simpa using H'.out⟩,⟨Below.refl _ _⟩⟩
 case round =>
  clear H'
  obtain ⟨k,hk,rfl,HI,HB⟩:=hrel
  by_cases hlt:k < l.length
  case neg =>
   have hI:=HI.out
   rw [List.drop_of_length_le (by omega)] at hI
   simp only [mJ,Option.some.injEq] at hI
   subst hI
   have hb:decide (k < l.length)=false:=by simp;omega
   go_wp2
   go_ret
   exact ⟨rfl,HB.out⟩
  have hI:=HI.out
  rw [List.drop_eq_getElem_cons hlt] at hI
  simp only [mJ] at hI
  obtain ⟨b,hb,hI⟩:=Option.bind_eq_some_iff.mp hI
  obtain ⟨ad,A',c',e,hcell,hlc,hC⟩:=cW (Kd.bA HR.out HB.out) (k:Int) (by omega) (by omega)
  cases e
  rw [Int.toNat_natCast] at hcell
  have hx:ah l (k:Int)=l[k]:=by simp [ah,List.getD_eq_getElem?_getD,hlt]
  rw [hx] at hcell hlc hC
  have Ba:=k0 hC
  have Be:=k0 hlc
  have amh:=k0 hb
  clear hC hlc hb hx
  cases b with
  | true =>
   simp only [if_true,Option.some.injEq] at hI
   subst hI
   go_wp2_with (go_at_call 181;refine (HP.out _ _ _ true _ HB.out Ba.out Be.out amh.out).mono ?_;rintro e w' ⟨rfl,cB⟩;have fO:=k0 (aI HB.out cB);clear cB)
   go_ret
   exact ⟨rfl,fO.out⟩
  | false =>
   simp only [Bool.false_eq_true,if_false] at hI
   have HD:=k0 hI
   clear hI
   go_wp2_with (go_at_call 181;refine (HP.out _ _ _ false _ HB.out Ba.out Be.out amh.out).mono ?_;rintro e w' ⟨rfl,cB⟩;have fO:=k0 (aI HB.out cB);clear cB)
   go_roundw
   case rel=>exact ⟨k+1,by omega,by go_num,HD,fO⟩
   case measure=>simp [intOf];omega
theorem WN {b1 : Nat} (fW : Int) (iQ : Option Addr) (iV : Nat) (eu : List (List Int)) (A : Option Addr) (c : Nat) (l : List (List Int)) (i : Int) (w : World) (hr : Kd.C (Kd.slice 2 (Kd.int .i64)) w A l.length l) (cQ : Kd.C (Kd.slice 2 (Kd.int .i64)) w iQ eu.length eu) (ef : eu.length ≤ iV) (hb : w.heap[b1]? = some (sO fW iQ eu iV 31)) (hi : mJ (fun x => (r6.f fW eu x).map not) l 0 = some i) :
  Calls Try.prog 180 #[.slice A l.length c,.func (.func 181) #[] #[.pointer (some ⟨b1,0,none⟩)]] w fun e w'=>e=.returned (.bool (decide (0≤i)))∧Below w.heap.size w w':=by
 have HC:=fun W (hw:Below w.heap.size w W)=>WO (fun x=>(r6.f fW eu x).map not) b1 A c l i W (Kd.bA hr hw) (fun A' c' x b w1 hw1 hC hc hx=>by
  obtain ⟨b',hb',rfl⟩:=Option.map_eq_some_iff.1 hx
  exact WQ A' c' x fW iQ iV eu b' w1 hC hc (Kd.bA cQ (aI hw hw1)) ef (akj hb (aI hw hw1)) hb') hi
 have pW:=k0 HC
 clear HC hr cQ hb hi
 go_enter Try.func180,Try.ntmps180
 go_wp2_with (go_at_call 220;refine (pW.out _ (Below.refl _ _)).mono ?_;rintro e w' ⟨rfl,cB⟩;have fO:=k0 cB;clear cB)
 go_ret
 exact ⟨by first|rfl|(simp;done),fO.out⟩
theorem Ic {b1 b2 b3 : Nat} (fW : Int) (iQ : Option Addr) (iV : Nat) (eu : List (List Int)) (a2 : Int) (A3 : Option Addr) (c3 : Nat) (l3 : List (List Int)) (q r : Bool) (w : World) (cQ : Kd.C (Kd.slice 2 (Kd.int .i64)) w iQ eu.length eu) (ef : eu.length ≤ iV) (qo : Kd.C (Kd.slice 2 (Kd.int .i64)) w A3 l3.length l3) (hb1 : w.heap[b1]? = some (sO fW iQ eu iV 31)) (hb2 : w.heap[b2]? = some (.cells #[.int .i64 a2] 2 (0, 0))) (hb3 : w.heap[b3]? = some (.cells #[.slice A3 l3.length c3] 22 (0, 0))) (hq : zD.f fW eu a2 = some q) (hi : q = true → ∃ i, mJ (fun x => (r6.f fW eu x).map not) l3 0 = some i ∧ r = !(decide (0 ≤ i))) (hn : q = false → r = false) :
  Calls Try.prog 178 #[.pointer (some ⟨b1,0,none⟩),.pointer (some ⟨b2,0,none⟩),.pointer (some ⟨b3,0,none⟩)] w fun e w'=>e=.returned (.bool r)∧Below w.heap.size w w':=by
 have HV:=fun W (hw:Below w.heap.size w W)=>zD.calls fW iQ iV eu a2 q W (Kd.bA cQ hw) ef hq
 have MN:=k0 HV
 have BK1:=k0 hb1
 have BK2:=k0 hb2
 have L2:=k0 hb3
 have HB0:=k0 (Below.refl w.heap.size w)
 have agT:w.cell? ⟨b1,0,none⟩=some (.int .i64 fW):=(av hb1 0).trans rfl
 have agU:w.cell? ⟨b1,1,none⟩=some (.slice iQ eu.length iV):=(av hb1 1).trans rfl
 have agV:w.cell? ⟨b2,0,none⟩=some (.int .i64 a2):=(av hb2 0).trans rfl
 have ahj:=aH hb1 0
 have ahk:=aH hb1 1
 have ahl:=aH hb2 0
 cases q with
 | false =>
  obtain rfl:=hn rfl
  clear HV cQ qo hb1 hb2 hb3 hq hi hn
  go_enter Try.func178,Try.ntmps178
  go_wp2_with (go_at_call 179;refine (MN.out _ (by repeat (first|exact Below.refl _ _|apply dA|apply akz|apply cP))).mono ?_;rintro e w2 ⟨rfl,cB⟩;have fO:=k0 (aI (by repeat (first|exact Below.refl _ _|apply dA|apply akz|apply cP)) cB:Below w.heap.size w w2);clear cB)
  go_ret
  exact ⟨by first|rfl|(simp;done),(by repeat (first|exact fO.out|apply dA|apply akz|apply cP))⟩
 | true =>
  obtain ⟨i,hi1,rfl⟩:=hi rfl
  have HC:=fun W (hw:Below w.heap.size w W)=>WN fW iQ iV eu A3 c3 l3 i W (Kd.bA qo hw) (Kd.bA cQ hw) ef (akj hb1 hw) hi1
  have pW:=k0 HC
  clear HV HC cQ qo hb1 hb2 hb3 hq hi hn
  go_enter Try.func178,Try.ntmps178
  go_wp2_with (first|(go_at_call 179;refine (MN.out _ (by repeat (first|exact Below.refl _ _|apply dA|apply akz|apply cP))).mono ?_;rintro e w2 ⟨rfl,cB⟩;have fO:=k0 (aI (by repeat (first|exact Below.refl _ _|apply dA|apply akz|apply cP)) cB:Below w.heap.size w w2);clear cB;have ag8:w2.cell? ⟨b3,0,none⟩=some (.slice A3 l3.length c3):=(av (akj L2.out fO.out) 0).trans rfl;have ahy:=aH (akj L2.out fO.out) 0)|(go_at_call 180;refine (pW.out _ (by repeat (first|exact fO.out|apply dA|apply akz|apply cP))).mono ?_;rintro e w3 ⟨rfl,cB⟩;have am0:=k0 (aI (by repeat (first|exact fO.out|apply dA|apply akz|apply cP)) cB:Below w.heap.size w w3);clear cB))
  go_ret
  exact ⟨by first|rfl|(simp;done),(by repeat (first|exact am0.out|apply dA|apply akz|apply cP))⟩
theorem EE {b1 b2 b3 : Nat} (k : Nat) (af : Int) (aq : Option Addr) (ak : Nat) (aa : List (List Int)) (b r : Bool) (w : World) (dB : Kd.C (Kd.slice 2 (Kd.int .i64)) w aq aa.length aa) (hc0 : aa.length ≤ ak) (hb : ie.f k af aa = some b) (hcl : b = true → ∀ W, Below w.heap.size w W → Calls Try.prog 178 #[.pointer (some ⟨b1, 0, none⟩), .pointer (some ⟨b2, 0, none⟩), .pointer (some ⟨b3, 0, none⟩)] W fun e w' => e = .returned (.bool r) ∧ Below W.heap.size W w') :
  Calls Try.prog 125 #[.agg #[.int .i64 af,.slice aq aa.length ak],.func (.func 178) #[] #[.pointer (some ⟨b1,0,none⟩),.pointer (some ⟨b2,0,none⟩),.pointer (some ⟨b3,0,none⟩)]] w fun e w'=>e=.returned (.int .i64 (if b=true then (if r=true then 0 else 2) else 1))∧Below w.heap.size w w':=by
 have HG:=fun W (hw:Below w.heap.size w W)=>ie.calls k af aq ak aa b W (Kd.bA dB hw) hc0 hb
 have GW:=k0 HG
 clear HG dB hb
 cases b with
 | false =>
  clear hcl
  go_enter Try.func125,Try.ntmps125
  go_wp2_with (go_at_call 106;refine (GW.out _ (by repeat (first|exact Below.refl _ _|apply dA|apply akz|apply cP))).mono ?_;rintro e w1 ⟨rfl,cB⟩;have kM:=k0 (aI (by repeat (first|exact Below.refl _ _|apply dA|apply akz|apply cP)) cB:Below w.heap.size w w1);clear cB)
  go_ret
  exact ⟨by first|rfl|(simp;done),(by repeat (first|exact kM.out|apply dA|apply akz|apply cP))⟩
 | true =>
  have pW:=k0 (hcl rfl)
  clear hcl
  cases r with
  | false =>
   go_enter Try.func125,Try.ntmps125
   go_wp2_with (first|(go_at_call 106;refine (GW.out _ (by repeat (first|exact Below.refl _ _|apply dA|apply akz|apply cP))).mono ?_;rintro e w1 ⟨rfl,cB⟩;have kM:=k0 (aI (by repeat (first|exact Below.refl _ _|apply dA|apply akz|apply cP)) cB:Below w.heap.size w w1);clear cB)|(go_at_call 178;refine (pW.out _ (by repeat (first|exact kM.out|apply dA|apply akz|apply cP))).mono ?_;rintro e w2 ⟨rfl,cB⟩;have fO:=k0 (aI (by repeat (first|exact kM.out|apply dA|apply akz|apply cP)) cB:Below w.heap.size w w2);clear cB))
   go_ret
   exact ⟨by first|rfl|(simp;done),(by repeat (first|exact fO.out|apply dA|apply akz|apply cP))⟩
  | true =>
   go_enter Try.func125,Try.ntmps125
   go_wp2_with (first|(go_at_call 106;refine (GW.out _ (by repeat (first|exact Below.refl _ _|apply dA|apply akz|apply cP))).mono ?_;rintro e w1 ⟨rfl,cB⟩;have kM:=k0 (aI (by repeat (first|exact Below.refl _ _|apply dA|apply akz|apply cP)) cB:Below w.heap.size w w1);clear cB)|(go_at_call 178;refine (pW.out _ (by repeat (first|exact kM.out|apply dA|apply akz|apply cP))).mono ?_;rintro e w2 ⟨rfl,cB⟩;have fO:=k0 (aI (by repeat (first|exact kM.out|apply dA|apply akz|apply cP)) cB:Below w.heap.size w w2);clear cB))
   go_ret
   exact ⟨by first|rfl|(simp;done),(by repeat (first|exact fO.out|apply dA|apply akz|apply cP))⟩
def qC.f (k:Nat) (af:Int) (aa:List (List Int)) (fW:Int) (eu:List (List Int)) (a2:Int) (l3:List (List Int)):Option Int :=
 (ie.f k af aa).bind fun b=>if b=true then ((zD.f fW eu a2).bind fun q=>if q=true then ((mJ (fun x=>(r6.f fW eu x).map not) l3 0).bind fun i=>if 0≤i then some 2 else (qD.f k af aa).bind fun p=>if p=1 then some 0 else some 5) else some 2) else some 1
theorem qC.mono:∀ a0 a1 a2 a3 a4 a5 k,aj (qC.f k a0 a1 a2 a3 a4 a5) (qC.f (k+1) a0 a1 a2 a3 a4 a5):=by
 intro a0 a1 a2 a3 a4 a5 k
 unfold qC.f
 repeat' first
  | (with_reducible first|exact qD.mono _ _ _|exact ie.mono _ _ _|exact aj.refl _|exact aj.none _|refine aj.ite ?_ ?_|refine aj.bind ?_ (fun _=>?_))
  | exact qD.mono _ _ _|exact ie.mono _ _ _|exact aj.none _|refine aj.ite ?_ ?_|refine aj.bind ?_ (fun _=>?_)
set_option maxHeartbeats 8000000 in
set_option maxRecDepth 100000 in
theorem qC.calls {b1 b2 b3 : Nat} (k : Nat) (af : Int) (aq : Option Addr) (ak : Nat) (aa : List (List Int)) (fW : Int) (iQ : Option Addr) (iV : Nat) (eu : List (List Int)) (a2 : Int) (A3 : Option Addr) (c3 : Nat) (l3 : List (List Int)) (r : Int) (w : World) (akv : Kd.C (Kd.slice 2 (Kd.int .i64)) w aq aa.length aa) (akw : aa.length ≤ ak) (xj : Kd.C (Kd.slice 2 (Kd.int .i64)) w iQ eu.length eu) (At : eu.length ≤ iV) (qo : Kd.C (Kd.slice 2 (Kd.int .i64)) w A3 l3.length l3) (ZK : l3.length ≤ c3) (hb1 : w.heap[b1]? = some (sO fW iQ eu iV 31)) (hb2 : w.heap[b2]? = some (.cells #[.int .i64 a2] 2 (0, 0))) (hb3 : w.heap[b3]? = some (.cells #[.slice A3 l3.length c3] 22 (0, 0))) (h : qC.f k af aa fW eu a2 l3 = some r) :
  Calls Try.prog 103 #[.agg #[.int .i64 af,.slice aq aa.length ak],.func (.func 178) #[] #[.pointer (some ⟨b1,0,none⟩),.pointer (some ⟨b2,0,none⟩),.pointer (some ⟨b3,0,none⟩)]] w fun e w'=>e=.returned (.int .i64 r)∧Below w.heap.size w w':=by
 unfold qC.f at h
 obtain ⟨b,hb,h⟩:=Option.bind_eq_some_iff.mp h
 have key:∃ c:Int,(∀ W,Below w.heap.size w W→Calls Try.prog 125 #[.agg #[.int .i64 af,.slice aq aa.length ak],.func (.func 178) #[] #[.pointer (some ⟨b1,0,none⟩),.pointer (some ⟨b2,0,none⟩),.pointer (some ⟨b3,0,none⟩)]] W fun e w'=>e=.returned (.int .i64 c)∧Below W.heap.size W w')∧((c ≠ 0∧r=c∧(c == 0)=false)∨(c=0∧∃ p,qD.f k af aa=some p∧((p=1∧r=0)∨(p ≠ 1∧r=5)))):=by
  cases b with
  | false =>
   simp only [Bool.false_eq_true,if_false,Option.some.injEq] at h
   subst h
   exact ⟨1,fun W hw=>EE k af aq ak aa false true W (Kd.bA akv hw) akw hb (fun h=>by simp at h),.inl ⟨by decide,rfl,rfl⟩⟩
  | true =>
   simp only [if_true] at h
   obtain ⟨q,hq,h⟩:=Option.bind_eq_some_iff.mp h
   cases q with
   | false =>
    simp only [Bool.false_eq_true,if_false,Option.some.injEq] at h
    subst h
    exact ⟨2,fun W hw=>EE k af aq ak aa true false W (Kd.bA akv hw) akw hb (fun _ W1 hw1=>Ic fW iQ iV eu a2 A3 c3 l3 false false W1 (Kd.bA xj (aI hw hw1)) At (Kd.bA qo (aI hw hw1)) (akj hb1 (aI hw hw1)) (akj hb2 (aI hw hw1)) (akj hb3 (aI hw hw1)) hq (fun h=>by simp at h) (fun _=>rfl)),.inl ⟨by decide,rfl,rfl⟩⟩
   | true =>
    simp only [if_true] at h
    obtain ⟨i,hi,h⟩:=Option.bind_eq_some_iff.mp h
    by_cases h0:0≤i
    case neg =>
     rw [if_neg h0] at h
     obtain ⟨p,hp,h⟩:=Option.bind_eq_some_iff.mp h
     refine ⟨0,fun W hw=>EE k af aq ak aa true true W (Kd.bA akv hw) akw hb (fun _ W1 hw1=>Ic fW iQ iV eu a2 A3 c3 l3 true true W1 (Kd.bA xj (aI hw hw1)) At (Kd.bA qo (aI hw hw1)) (akj hb1 (aI hw hw1)) (akj hb2 (aI hw hw1)) (akj hb3 (aI hw hw1)) hq (fun _=>⟨i,hi,by simp [h0]⟩) (fun h=>by simp at h)),.inr ⟨rfl,p,hp,?_⟩⟩
     by_cases h1:p=1
     case neg =>
      rw [if_neg h1] at h
      exact .inr ⟨h1,(Option.some.inj h).symm⟩
     rw [if_pos h1] at h
     exact .inl ⟨h1,(Option.some.inj h).symm⟩
    rw [if_pos h0] at h
    obtain rfl:=Option.some.inj h
    exact ⟨2,fun W hw=>EE k af aq ak aa true false W (Kd.bA akv hw) akw hb (fun _ W1 hw1=>Ic fW iQ iV eu a2 A3 c3 l3 true false W1 (Kd.bA xj (aI hw hw1)) At (Kd.bA qo (aI hw hw1)) (akj hb1 (aI hw hw1)) (akj hb2 (aI hw hw1)) (akj hb3 (aI hw hw1)) hq (fun _=>⟨i,hi,by simp [h0]⟩) (fun h=>by simp at h)),.inl ⟨by decide,rfl,rfl⟩⟩
 clear h hb
 obtain ⟨c,HK,hc⟩:=key
 have GX:=k0 HK
 clear HK
 rcases hc with ⟨hc0,rfl,hcb⟩|⟨rfl,p,hp,hc⟩
 ·clear akv xj qo hb1 hb2 hb3
  have hcd:decide (r=0)=false:=by simpa using hc0
  go_enter Try.func103,Try.ntmps103
  go_wp2_with (go_at_call 125;refine (GX.out _ (by repeat (first|exact Below.refl _ _|apply dA|apply akz|apply cP))).mono ?_;rintro e w1 ⟨rfl,cB⟩;have kM:=k0 (aI (by repeat (first|exact Below.refl _ _|apply dA|apply akz|apply cP)) cB:Below w.heap.size w w1);clear cB)
  go_ret
  exact ⟨by first|rfl|(simp;done),(by repeat (first|exact kM.out|apply dA|apply akz|apply cP))⟩
 ·have HP := fun W (hw : Below w.heap.size w W) => qD.calls k af aq ak aa p W (Kd.bA akv hw) akw hp
  have MA:=k0 HP
  clear HP akv xj qo hb1 hb2 hb3 hp
  rcases hc with ⟨rfl,rfl⟩|⟨h1,rfl⟩
  ·go_enter Try.func103, Try.ntmps103
   go_wp2_with (first|(go_at_call 125;refine (GX.out _ (by repeat (first|exact Below.refl _ _|apply dA|apply akz|apply cP))).mono ?_;rintro e w1 ⟨rfl,cB⟩;have kM:=k0 (aI (by repeat (first|exact Below.refl _ _|apply dA|apply akz|apply cP)) cB:Below w.heap.size w w1);have abi:w1.cell? ⟨w.heap.size,0,none⟩=some (.int .i64 af):=(cB.cell (p:=⟨w.heap.size,0,none⟩) (by simp)).trans (by go_simp);have abk:w1.cell? ⟨w.heap.size,1,none⟩=some (.slice aq aa.length ak):=(cB.cell (p:=⟨w.heap.size,1,none⟩) (by simp)).trans (by go_simp);clear cB)|(go_at_call 190;refine (MA.out _ (by repeat (first|exact kM.out|apply dA|apply akz|apply cP))).mono ?_;rintro e w2 ⟨rfl,cB⟩;have fO:=k0 (aI (by repeat (first|exact kM.out|apply dA|apply akz|apply cP)) cB:Below w.heap.size w w2);clear cB))
   go_ret
   exact ⟨by first|rfl|(simp;done),(by repeat (first|exact fO.out|apply dA|apply akz|apply cP))⟩
  ·have h1b : (p == 1) = false := by simpa using h1
   go_enter Try.func103,Try.ntmps103
   go_wp2_with (first|(go_at_call 125;refine (GX.out _ (by repeat (first|exact Below.refl _ _|apply dA|apply akz|apply cP))).mono ?_;rintro e w1 ⟨rfl,cB⟩;have kM:=k0 (aI (by repeat (first|exact Below.refl _ _|apply dA|apply akz|apply cP)) cB:Below w.heap.size w w1);have abi:w1.cell? ⟨w.heap.size,0,none⟩=some (.int .i64 af):=(cB.cell (p:=⟨w.heap.size,0,none⟩) (by simp)).trans (by go_simp);have abk:w1.cell? ⟨w.heap.size,1,none⟩=some (.slice aq aa.length ak):=(cB.cell (p:=⟨w.heap.size,1,none⟩) (by simp)).trans (by go_simp);clear cB)|(go_at_call 190;refine (MA.out _ (by repeat (first|exact kM.out|apply dA|apply akz|apply cP))).mono ?_;rintro e w2 ⟨rfl,cB⟩;have fO:=k0 (aI (by repeat (first|exact kM.out|apply dA|apply akz|apply cP)) cB:Below w.heap.size w w2);clear cB))
   go_ret
   exact ⟨by first|rfl|(simp;done),(by repeat (first|exact fO.out|apply dA|apply akz|apply cP))⟩
/-! ### F92: function 92 -/
def o4.f (k:Nat) (af:Int) (aa:List (List Int)) (a1:Int) (l2:List (List Int)):Option (Int):=(qC.f k af aa af aa a1 l2).bind fun t104=>(some t104)
theorem o4.mono:∀ a0 a1 a2 a3 k,aj (o4.f k a0 a1 a2 a3) (o4.f (k+1) a0 a1 a2 a3):=by
 intro a0 a1 a2 a3 k
 unfold o4.f
 repeat' first
  | (with_reducible first|exact qC.mono _ _ _ _ _ _ _|exact aj.refl _|exact aj.none _|refine aj.ite ?_ ?_|refine aj.bind ?_ (fun _=>?_))
  | exact qC.mono _ _ _ _ _ _ _|exact aj.none _|refine aj.ite ?_ ?_|refine aj.bind ?_ (fun _=>?_)
set_option maxHeartbeats 8000000 in
set_option maxRecDepth 100000 in
theorem o4.calls (k : Nat) (af : Int) (aq : Option Addr) (ak : Nat) (aa : List (List Int)) (a1 : Int) (A2 : Option Addr) (c2 : Nat) (l2 : List (List Int)) (r : Int) (w : World) (akv : Kd.C (Kd.slice 2 (Kd.int .i64)) w aq aa.length aa) (akw : aa.length ≤ ak) (nj : Kd.C (Kd.slice 2 (Kd.int .i64)) w A2 l2.length l2) (nc : l2.length ≤ c2) (h : o4.f k af aa a1 l2 = some r) :
  Calls Try.prog 92 #[.agg #[.int .i64 af,.slice aq aa.length ak],.int .i64 a1,.slice A2 l2.length c2] w fun e w'=>e=.returned (.int .i64 r)∧Below w.heap.size w w':=by
 have j8:=Try.underlying31
 have bU:=k0 akv
 have cG:=k0 akw
 clear akv akw
 have rq:=k0 nj
 have qE:=k0 nc
 clear nj nc
 have HB:=k0 (Below.refl w.heap.size w)
 have H:((qC.f k af aa af aa a1 l2).bind fun t104=>(some t104))=some r:=h
 clear h
 replace H:=Option.bind_eq_some_iff.mp H
 obtain ⟨t104,jA,H⟩:=H
 replace H:(some t104)=some r:=H
 have A4:=k0 jA
 clear jA
 obtain rfl:=Option.some.inj H
 go_enter Try.func92,Try.ntmps92
 go_wp2_with (first|((with_reducible refine cj (N:=3) rfl ?_);refine dJ ?hg (N:=3) ?hd (cs:=#[.int .i64 af,.slice aq aa.length ak]) (t:=31) ?hr ?_;(case hd=>rfl);(case hg=>rfl);(case hr=>first|(go_simp;done)|(go_simp;rfl));intro ai hg w5 aK hb;have ag:=k0 (aK);have aks:=k0 ((by rw [hg];exact (aU bl):w.heap.size≤ai));have ej:=aks;replace HB:=k0 (aI bl hb);clear hb aK hg)|((with_reducible refine cj (N:=4) rfl ?_);refine dJ ?hg (N:=4) ?hd (cs:=#[.int .i64 a1]) (t:=2) ?hr ?_;(case hd=>rfl);(case hg=>rfl);(case hr=>first|(go_simp;done)|(go_simp;rfl));intro fQ hg w6 aK hb;have jB:=k0 (aK);have uK:=k0 ((by rw [hg];exact (aU bl):w.heap.size≤fQ));have D5:=uK;replace HB:=k0 (aI bl hb);have uR:=k0 ((by rw [hg];exact Nat.ne_of_lt (cJ (g:=ai) (o:=sO af aq aa ak 31) bk):ai ≠ fQ));have uT:=k0 ((by rw [hg];exact Nat.ne_of_gt (cJ (g:=ai) (o:=sO af aq aa ak 31) bk):fQ ≠ ai));replace ag:=k0 (akj (g:=ai) (o:=sO af aq aa ak 31) bk hb);clear hb aK hg)|((with_reducible refine cj (N:=5) rfl ?_);refine dJ ?hg (N:=5) ?hd (cs:=#[.slice A2 l2.length c2]) (t:=22) ?hr ?_;(case hd=>rfl);(case hg=>rfl);(case hr=>first|(go_simp;done)|(go_simp;rfl));intro lU hg w7 aK hb;have akf:=k0 (akj (g:=ai) (o:=sO af aq aa ak 31) bk hb);have aD:=k0 (akj (g:=fQ) (o:=.cells #[.int .i64 a1] 2 (0,0)) bk hb);have aJ:=k0 (aI bl hb);have aX:=k0 (aK);have a_:=k0 ((by rw [hg];exact (aU bl):w.heap.size≤lU));have akp:=k0 ((by rw [hg];exact (aU bl):w.heap.size≤lU));have bx:=k0 ((by rw [hg];exact Nat.ne_of_lt (cJ (g:=ai) (o:=sO af aq aa ak 31) bk):ai ≠ lU));have b9:=k0 ((by rw [hg];exact Nat.ne_of_gt (cJ (g:=ai) (o:=sO af aq aa ak 31) bk):lU ≠ ai));have cL:=k0 ((by rw [hg];exact Nat.ne_of_lt (cJ (g:=fQ) (o:=.cells #[.int .i64 a1] 2 (0,0)) bk):fQ ≠ lU));have akB:=k0 ((by rw [hg];exact Nat.ne_of_gt (cJ (g:=fQ) (o:=.cells #[.int .i64 a1] 2 (0,0)) bk):lU ≠ fQ));clear ag;clear jB;clear HB;have ag:=akf;have jB:=aD;have HB:=aJ;have qB:=aX;have amY:=a_;have TS:=akp;have Eh:=bx;have HE:=b9;have Ei:=cL;have MR:=akB;clear akf aD aJ aX a_ akp bx b9 cL akB;clear hb aK hg;have abb:=uR.out;have abe:=uT.out;have abc:=Eh.out;have abf:=HE.out;have ud:w7.cell? ⟨ai,0,none⟩=some (.int .i64 af):=(av ag.out 0).trans rfl;have ue:w7.cell? ⟨ai,1,none⟩=some (.slice aq aa.length ak):=(av ag.out 1).trans rfl;have uj:=aH ag.out 0;have uk:=aH ag.out 1)|((with_reducible refine cZ (f:=103) rfl ?_);refine c_ (some 9) rfl rfl Try.func103 (by kernel_rfl) rfl #[.agg #[.int .i64 af,.slice aq aa.length ak],.func (.func 178) #[] #[.pointer (some ⟨ai,0,none⟩),.pointer (some ⟨fQ,0,none⟩),.pointer (some ⟨lU,0,none⟩)]] rfl gm ?_;(with_reducible refine (qC.calls k af _ _ aa af aq ak aa a1 A2 c2 l2 t104 _ ?akn ?aT ?cn ?cw ?ak8 ?ak9 ?DG ?DH ?amr A4.out).mono ?_);(case akn=>exact aC (Kd.bA bU.out HB.out));(case aT=>exact cG.out);(case cn=>exact aC (Kd.bA bU.out HB.out));(case cw=>exact cG.out);(case ak8=>exact aC (Kd.bA rq.out HB.out));(case ak9=>exact qE.out);(case DG=>exact by exact bk);(case DH=>exact by exact bk);(case amr=>exact by exact bk);rintro e akC ⟨rfl,hb⟩;refine ⟨_,rfl,?_⟩;have akf:=k0 (akj (g:=ai) (o:=sO af aq aa ak 31) bk hb);have aD:=k0 (akj (g:=fQ) (o:=.cells #[.int .i64 a1] 2 (0,0)) bk hb);have aJ:=k0 (akj (g:=lU) (o:=.cells #[.slice A2 l2.length c2] 22 (0,0)) bk hb);have aX:=k0 (aI bl hb);clear ag;clear jB;clear qB;clear HB;have ag:=akf;have jB:=aD;have qB:=aJ;have HB:=aX;clear akf aD aJ aX;(try clear hb)))
 go_ret
 exact ⟨by first|rfl|(simp [bq,bt]<;>rfl)|(simp [*,bq,bt]<;>rfl),bl⟩
-- NOT PRINTED: function 188 (slices_IndexFunc_int64_int64_188)
-- NOT PRINTED: function 98 (slices_ContainsFunc_int64_int64)
/-! ### F115: function 115 -/
def ig.l0 : Nat → List Int → Int → Int → Option (List Int)
 | 0,_,_,_=>none
 | k+1,x3,x7,x8=>if x8 < x7 then (if x3.length < 17592186044416 then (ig.l0 k (x3 ++ [x8]) x7 (wrap64 (x8+1))) else (none)) else (some x3)
def ig.f (k:Nat) (af:Int) (aa:List (List Int)):Option (List Int):=ig.l0 k (([]:List Int)) af 0
theorem ig.b8 : ∀ k, (∀ y0 y1 y2, aj (ig.l0 k y0 y1 y2) (ig.l0 (k + 1) y0 y1 y2))
 | 0=>fun _ _ _ r h=>by simp [ig.l0] at h
 | k+1=>by
  have akk:=ig.b8 k
  ·intro y0 y1 y2
   unfold ig.l0
   repeat' first
    | (with_reducible first|exact akk _ _ _|exact aj.refl _|exact aj.none _|refine aj.ite ?_ ?_|refine aj.bind ?_ (fun _=>?_))
    | exact akk _ _ _|exact aj.none _|refine aj.ite ?_ ?_|refine aj.bind ?_ (fun _=>?_)
theorem ig.mono:∀ a0 a1 k,aj (ig.f k a0 a1) (ig.f (k+1) a0 a1):=by
 intro a0 a1 k
 have akk:=ig.b8 k
 unfold ig.f
 repeat' first
  | (with_reducible first|exact akk _ _ _|exact aj.refl _|exact aj.none _|refine aj.ite ?_ ?_|refine aj.bind ?_ (fun _=>?_))
  | exact akk _ _ _|exact aj.none _|refine aj.ite ?_ ?_|refine aj.bind ?_ (fun _=>?_)
set_option maxHeartbeats 8000000 in
set_option maxRecDepth 100000 in
theorem ig.calls (k : Nat) (af : Int) (aq : Option Addr) (ak : Nat) (aa : List (List Int)) (r : List Int) (w : World) (akv : Kd.C (Kd.slice 2 (Kd.int .i64)) w aq aa.length aa) (akw : aa.length ≤ ak) (h : ig.f k af aa = some r) :
  Calls Try.prog 115 #[.agg #[.int .i64 af,.slice aq aa.length ak]] w fun e w'=>∃ dK:Value,e=.returned (dK)∧Kd.R (Kd.int .i64) 2 w' w.heap.size (fun _=>True) dK r∧Below w.heap.size w w':=by
 have j8:=Try.underlying31
 have bU:=k0 akv
 have cG:=k0 akw
 clear akv akw
 have HB:=k0 (Below.refl w.heap.size w)
 have H:(ig.l0 k (([]:List Int)) af 0)=some r:=h
 clear h
 obtain ⟨eW,eL⟩:∃ y_:List Int,y_=(([]:List Int)):=⟨_,rfl⟩
 replace H:(ig.l0 k eW af 0)=some r:=by first|(rw [eL];with_reducible exact H)|(have ay:=(Option.bind_some _ _).symm.trans H;rw [eL];with_reducible exact ay)|(have ay:=(Option.bind_some _ _).symm.trans H;with_reducible exact ay)|with_reducible exact H|(rw [eL];exact H)|exact H
 have gA:=k0 eL
 clear eL
 have H':=k0 H
 clear H
 go_enter Try.func115,Try.ntmps115
 go_wp2_with (first|((with_reducible refine cj (N:=1) rfl ?_);refine dJ ?hg (N:=1) ?hd (cs:=#[.int .i64 af,.slice aq aa.length ak]) (t:=31) ?hr ?_;(case hd=>rfl);(case hg=>rfl);(case hr=>first|(go_simp;done)|(go_simp;rfl));intro ai hg w2 aK hb;have ag:=k0 (aK);have aks:=k0 ((by rw [hg];exact (aU bl):w.heap.size≤ai));have ej:=aks;replace HB:=k0 (aI bl hb);clear hb aK hg)|((with_reducible refine cj (N:=5) rfl ?_);refine Kd.o8 (Kd.int .i64) _ 2 ?hg (N:=5) ?hd (xs:=([]:List Int)) (inner:=[]) (ok:=fun _=>True) (cA:=fun _=>True) ?hr ?hp (fun _ hk=>hk) trivial (Below.refl _ _) (Nat.le_refl _) (by simp) ?_;(case hd=>rfl);(case hg=>rfl);(case hr=>first|(go_simp;done)|(go_simp;rfl));(case hp=>exact (bS.none _ _));intro dx w3 ep hb eB eC;clear eB eC;(first|rw [← gA.out] at ep|(simp only [Int.reduceToNat] at ep;rw [← gA.out] at ep));have bh:=k0 (Kd.dL ep (aU bl));replace ag:=k0 (akj (g:=ai) (o:=sO af aq aa ak 31) bk hb);replace HB:=k0 (aI bl hb);clear hb ep;have sJ:w3.cell? ⟨ai,0,none⟩=some (.int .i64 af):=(av ag.out 0).trans rfl;have sK:w3.cell? ⟨ai,1,none⟩=some (.slice aq aa.length ak):=(av ag.out 1).trans rfl;have sM:=aH ag.out 0;have sN:=aH ag.out 1))
 go_loopg [3,8] k (fun kq v3 v8 w'=>∃ (bD:List Int) (bE:Int),v8=.int .i64 bE∧au (ig.l0 kq bD af bE=some r)∧au (kq≤k)∧au (Kd.R (Kd.int .i64) 2 w' w.heap.size (fun _=>True) v3 bD)∧au (w'.heap[ai]?=some (sO af aq aa ak 31))∧au (Below w.heap.size w w'))
 case atStart=>exact ⟨(eW),(0),rs,H',⟨Nat.le_refl _⟩,⟨aR (bh.out)⟩,⟨bk⟩,⟨bl⟩⟩
 case round =>
  clear H'
  (try clear sJ);(try clear sK);(try clear sM);(try clear sN)
  obtain ⟨bD,bE,rfl,HA,akl,az,ag,HB⟩:=hrel
  cases gk with
  | zero=>exact absurd HA.out (by simp [ig.l0])
  | succ k1 =>
   have H:=HA.out
   clear HA
   simp only [ig.l0] at H
   by_cases c6:bE < af
   case neg =>
    rw [if_neg c6] at H
    have akJ:decide (bE < af)=false:=decide_eq_false c6
    clear c6
    obtain rfl:=Option.some.inj H
    go_wp2
    go_ret
    exact ⟨_,by first|rfl|(simp [bq,bt]<;>rfl)|(simp [*,bq,bt]<;>rfl),by (with_reducible repeat (first|apply Kd.bN|apply Kd.bQ|apply Kd.bn));exact az.out,bl⟩
   rw [if_pos c6] at H
   have akJ:=decide_eq_true c6
   clear c6
   replace H:=iS H;obtain ⟨c7,H⟩:=H
   have xQ:=k0 c7
   clear c7
   obtain ⟨jg,fy⟩:∃ y_:List Int,y_=(bD ++ [bE]):=⟨_,rfl⟩
   replace H:(ig.l0 k1 jg af (wrap64 (bE+1)))=some r:=by first|(rw [fy];with_reducible exact H)|(have ay:=(Option.bind_some _ _).symm.trans H;rw [fy];with_reducible exact ay)|(have ay:=(Option.bind_some _ _).symm.trans H;with_reducible exact ay)|with_reducible exact H|(rw [fy];exact H)|exact H
   have lN:=k0 fy
   clear fy
   have H':=k0 H
   clear H
   go_wp2_with (first|((with_reducible refine oQ (b:=.append) (xs:=#[.tmp 11,.tmp 13]) rfl ?_);at_builtin;refine Kd.tV (Kd.int .i64) (w0:=w) w.heap.size rfl (.tmp 11) (.tmp 13) 28 2 (.int .i64 0) 8 rfl Try.underlying28 lH rfl (by decide) (by omega) u3 bD bE [.int .i64 bE] (fun _=>True) (fun _=>False) rfl rfl ?aP (fun _ hk=>hk.elim) ?aF ?aO ?aB ?aS ?aL ?_;(case aP=>exact rfl);(case aB=>exact bl);(case aF=>exact (fun _ _=>trivial));(case aO=>exact (aR az.out));(case aS=>exact (aU bl));(case aL=>have:=xQ.out;omega);intro fY w8 ho hb hg cy;rw [← lN.out] at ho;have akf:=k0 (jl (g:=ai) (o:=sO af aq aa ak 31) bk hg (Kd.iD az.out ag.out (by decide)));have aD:=k0 (hb);have aJ:=k0 (ho);clear ag;clear HB;clear az;have ag:=akf;have HB:=aD;have cN:=aJ;clear akf aD aJ;clear ho hb hg cy))
   go_roundg k1
   case measure=>have:=akl.out;omega
   case rel=>exact ⟨(jg),(wrap64 (bE+1)),rs,H',⟨by have:=akl.out;omega⟩,⟨aR (cN.out)⟩,⟨bk⟩,⟨bl⟩⟩
/-! ### F151: function 151 -/
theorem NJ (w:World) (a:Option Addr) (n c:Nat):(binOp .eql 28 (.slice a n c) (.slice none 0 0)).run Try.prog w=.ok (.bool a.isNone) w:=Lib.run_eql_slice_nil w _ _ a n c 0 0 Try.underlying28
def nW.f (l0:List Int):Option (List Int):=if l0.length < 17592186044416 then some l0 else none
set_option maxHeartbeats 8000000 in
set_option maxRecDepth 100000 in
theorem nW.calls (A0 : Option Addr) (c0 : Nat) (l0 : List Int) (r : List Int) (w : World) (dB : Kd.C (Kd.int .i64) w A0 l0.length l0) (hc0 : l0.length ≤ c0) (h : nW.f l0 = some r) :
  Calls Try.prog 151 #[.slice A0 l0.length c0] w fun e w'=>∃ dK:Value,e=.returned (dK)∧Kd.R (Kd.int .i64) 2 w' w.heap.size (fun _=>True) dK r∧Below w.heap.size w w':=by
 have fj:=k0 dB
 have ki:=k0 hc0
 clear dB hc0
 unfold nW.f at h
 by_cases c2:l0.length < 17592186044416
 case neg =>
  rw [if_neg c2] at h
  exact absurd h (by simp)
 rw [if_pos c2] at h
 obtain rfl:=Option.some.inj h
 clear h
 cases A0 with
 | none =>
  have hn:l0=[]:=by
   by_cases hz:l0.length=0
   case neg =>
    obtain ⟨ad,e,_⟩:=Kd.bH fj.out 0 (by omega) (by omega)
    cases e
   exact List.eq_nil_of_length_eq_zero hz
  subst hn
  have q_:=NJ
  go_enter Try.func151,Try.ntmps151
  go_wp2
  go_ret
  exact ⟨_,rfl,Kd.zQ _ _ _ _ _,Below.refl _ _⟩
 | some ad =>
  have HB:=k0 (Below.refl w.heap.size w)
  have Hw:=k0 c2
  clear c2
  have q_:=NJ
  go_enter Try.func151,Try.ntmps151
  go_wp2_with (first|((with_reducible refine cj (N:=5) rfl ?_);refine Kd.o8 (Kd.int .i64) _ 2 ?hg (N:=5) ?hd (xs:=([]:List Int)) (inner:=[]) (ok:=fun _=>True) (cA:=fun _=>True) ?hr ?hp (fun _ hk=>hk) trivial (Below.refl _ _) (Nat.le_refl _) (by simp) ?_;(case hd=>rfl);(case hg=>rfl);(case hr=>first|(go_simp;done)|(go_simp;rfl));(case hp=>exact (bS.none _ _));intro l6 w3 ep hb eB eC;clear eB eC;have kN:=k0 (Kd.dL ep (aU bl));replace HB:=k0 (aI bl hb);clear hb ep)|((with_reducible refine oQ (b:=.append) (xs:=#[.tmp 5,.tmp 6]) rfl ?_);at_builtin;refine Kd.HN (Kd.int .i64) (w0:=w) w.heap.size rfl (.tmp 5) (.tmp 6) 28 2 (.int .i64 0) 8 rfl Try.underlying28 lH rfl (by decide) (by omega) l6 ([]:List Int) l0 _ _ _ (fun _=>True) (fun _=>False) rfl rfl ?aO ?aR (fun _ _ h=>h) (fun _ h=>h.elim) ?aF ?aB ?aS ?aL ?_;(case aR=>repeat (first|exact (Kd.bA fj.out HB.out)|(with_reducible refine Kd.kK ?_ _)|(with_reducible refine Kd.kY ?_ _)|(with_reducible refine Kd.jY ?_)));(case aB=>exact bl);(case aF=>exact (fun _ _=>trivial));(case aO=>exact (aR kN.out));(case aS=>exact (aU bl));(case aL=>have:=Hw.out;simp;omega);intro v105 w5 ho hb hg cy;rw [List.nil_append] at ho;have akf:=k0 (hb);have aD:=k0 (ho);clear HB;clear kN;have HB:=akf;have gz:=aD;clear akf aD;clear ho hb hg cy))
  go_ret
  exact ⟨_,by first|rfl|(simp;done),by (with_reducible repeat (first|apply Kd.bN|apply Kd.bQ|apply Kd.bn));exact gz.out,bl⟩
/-! ### F204: function 204 -/
def ij.l0 : Nat → Int → List (List Int) → Int → Int → Option ((List (List Int)))
 | 0,_,_,_,_=>none
 | k+1,x0,x3,x5,x6=>if x6 < x5 then (if 0≤x0 then (if (x0:Int).toNat≤35184372088832 then (if x3.length < 5864062014805 then (ij.l0 k x0 (x3 ++ [(List.replicate (x0:Int).toNat 0)]) x5 (wrap64 (x6+1))) else (none)) else (none)) else (none)) else (some x3)
def ij.f (k:Nat) (a0:Int):Option ((List (List Int))):=ij.l0 k a0 (([]:List (List Int))) a0 0
theorem ij.b8 : ∀ k, (∀ y0 y1 y2 y3, aj (ij.l0 k y0 y1 y2 y3) (ij.l0 (k + 1) y0 y1 y2 y3))
 | 0=>fun _ _ _ _ r h=>by simp [ij.l0] at h
 | k+1=>by
  have akk:=ij.b8 k
  ·intro y0 y1 y2 y3
   unfold ij.l0
   repeat' first
    | (with_reducible first|exact akk _ _ _ _|exact aj.refl _|exact aj.none _|refine aj.ite ?_ ?_|refine aj.bind ?_ (fun _=>?_))
    | exact akk _ _ _ _|exact aj.none _|refine aj.ite ?_ ?_|refine aj.bind ?_ (fun _=>?_)
theorem ij.mono:∀ a0 k,aj (ij.f k a0) (ij.f (k+1) a0):=by
 intro a0 k
 have akk:=ij.b8 k
 unfold ij.f
 repeat' first
  | (with_reducible first|exact akk _ _ _ _|exact aj.refl _|exact aj.none _|refine aj.ite ?_ ?_|refine aj.bind ?_ (fun _=>?_))
  | exact akk _ _ _ _|exact aj.none _|refine aj.ite ?_ ?_|refine aj.bind ?_ (fun _=>?_)
set_option maxHeartbeats 8000000 in
set_option maxRecDepth 100000 in
theorem ij.calls (k : Nat) (a0 : Int) (r : List (List Int)) (w : World) (h : ij.f k a0 = some r) :
  Calls Try.prog 204 #[.int .i64 a0] w fun e w'=>∃ dK:Value,e=.returned (dK)∧Kd.S (Kd.slice 2 (Kd.int .i64)) 28 w' w.heap.size (fun _=>True) dK r∧Below w.heap.size w w':=by
 have HB:=k0 (Below.refl w.heap.size w)
 have H:(ij.l0 k a0 (([]:List (List Int))) a0 0)=some r:=h
 clear h
 obtain ⟨jz,akD⟩:∃ y_:List (List Int),y_=(([]:List (List Int))):=⟨_,rfl⟩
 replace H:(ij.l0 k a0 jz a0 0)=some r:=by first|(rw [akD];with_reducible exact H)|(have ay:=(Option.bind_some _ _).symm.trans H;rw [akD];with_reducible exact ay)|(have ay:=(Option.bind_some _ _).symm.trans H;with_reducible exact ay)|with_reducible exact H|(rw [akD];exact H)|exact H
 have mg:=k0 akD
 clear akD
 have H':=k0 H
 clear H
 go_enter Try.func204,Try.ntmps204
 go_wp2_with (first|((with_reducible refine cj (N:=4) rfl ?_);refine Kd.Bn (Kd.slice 2 (Kd.int .i64)) _ 28 ?hg (N:=4) ?hd (xs:=([]:List (List Int))) (inner:=[]) (ok:=fun _=>True) (cA:=fun _=>True) ?hr ?hp (fun _ hk=>hk) trivial (Below.refl _ _) (Nat.le_refl _) (by simp) ?_;(case hd=>rfl);(case hg=>rfl);(case hr=>first|(go_simp;done)|(go_simp;rfl));(case hp=>exact (bS.none _ _));intro l6 w2 sZ hb eB eC;clear eB eC;(first|rw [← mg.out] at sZ|(simp only [Int.reduceToNat] at sZ;rw [← mg.out] at sZ));have kN:=k0 (Kd.ak0 sZ (aU bl));replace HB:=k0 (aI bl hb);clear hb sZ))
 go_loopg [3,6] k (fun kq v3 v6 w'=>∃ (bD:List (List Int)) (fU:Int),v6=.int .i64 fU∧au (ij.l0 kq a0 bD a0 fU=some r)∧au (kq≤k)∧au (Kd.S (Kd.slice 2 (Kd.int .i64)) 28 w' w.heap.size (fun _=>True) v3 bD)∧au (Below w.heap.size w w'))
 case atStart=>exact ⟨(jz),(0),rs,H',⟨Nat.le_refl _⟩,⟨aS (kN.out)⟩,⟨bl⟩⟩
 case round =>
  clear H'
  obtain ⟨bD,fU,rfl,HA,akl,az,HB⟩:=hrel
  cases gk with
  | zero=>exact absurd HA.out (by simp [ij.l0])
  | succ k1 =>
   have H:=HA.out
   clear HA
   simp only [ij.l0] at H
   by_cases c4:fU < a0
   case neg =>
    rw [if_neg c4] at H
    have eA:decide (fU < a0)=false:=decide_eq_false c4
    clear c4
    obtain rfl:=Option.some.inj H
    go_wp2
    go_ret
    exact ⟨_,by first|rfl|(simp [bq,bt]<;>rfl)|(simp [*,bq,bt]<;>rfl),by (with_reducible repeat (first|apply Kd.gI|apply Kd.gJ|apply Kd.eT));exact az.out,bl⟩
   rw [if_pos c4] at H
   have eA:=decide_eq_true c4
   clear c4
   replace H:=iS H;obtain ⟨c5,H⟩:=H
   have iW:=eq_true c5
   have alO:=decide_eq_true c5
   clear c5
   replace H:=iS H;obtain ⟨c6,H⟩:=H
   have akJ:=eq_true c6
   have alP:=decide_eq_true c6
   clear c6
   obtain ⟨nV,jt⟩:∃ y_:List Int,y_=(List.replicate (a0:Int).toNat 0):=⟨_,rfl⟩
   replace H:(if bD.length < 5864062014805 then (ij.l0 k1 a0 (bD ++ [nV]) a0 (wrap64 (fU+1))) else (none))=some r:=by first|(rw [jt];with_reducible exact H)|(have ay:=(Option.bind_some _ _).symm.trans H;rw [jt];with_reducible exact ay)|(have ay:=(Option.bind_some _ _).symm.trans H;with_reducible exact ay)|with_reducible exact H|(rw [jt];exact H)|exact H
   have tU:=k0 jt
   clear jt
   replace H:=iS H;obtain ⟨c7,H⟩:=H
   have xQ:=k0 c7
   clear c7
   obtain ⟨SI,C7⟩:∃ y_:List (List Int),y_=(bD ++ [nV]):=⟨_,rfl⟩
   replace H:(ij.l0 k1 a0 SI a0 (wrap64 (fU+1)))=some r:=by first|(rw [C7];with_reducible exact H)|(have ay:=(Option.bind_some _ _).symm.trans H;rw [C7];with_reducible exact ay)|(have ay:=(Option.bind_some _ _).symm.trans H;with_reducible exact ay)|with_reducible exact H|(rw [C7];exact H)|exact H
   have U0:=k0 C7
   clear C7
   have H':=k0 H
   clear H
   go_wp2_with (first|((with_reducible refine cj (N:=10) rfl ?_);refine Kd.xU (Kd.int .i64) _ 2 rfl (N:=10) rfl 28 _ _ rfl a0 rfl rfl Try.underlying28 (.int .i64 0) 8 lH rfl (by decide) (by omega) 0 (ok:=fun _=>True) (cA:=fun _=>True) rfl (fun _ hk=>hk) trivial oD (Nat.le_trans (Nat.mul_le_mul_right _ (oD:a0.toNat≤35184372088832)) (by omega)) (Below.refl _ _) (Nat.le_refl _) ?_;intro v105 w8 qY hb eB eC;clear eB eC;(first|rw [← tU.out] at qY|(simp only [Int.reduceToNat] at qY;rw [← tU.out] at qY));replace az:=k0 (Kd.g_ (aS az.out) (Kd.bW qY) hb);have gz:=k0 (Kd.dL qY (aU bl));replace HB:=k0 (aI bl hb);clear hb qY;obtain ⟨zA,Ae,BL⟩:=Kd.eK gz.out;subst BL)|((with_reducible refine oQ (b:=.append) (xs:=#[.tmp 8,.tmp 11]) rfl ?_);at_builtin;refine Kd.Bm (Kd.slice 2 (Kd.int .i64)) (w0:=w) w.heap.size rfl (.tmp 8) (.tmp 11) 22 28 (.slice none 0 0) 24 rfl Try.underlying22 xo rfl (by decide) (by omega) u3 bD nV [.slice zA nV.length Ae] (fun _=>True) (fun k_=>some k_=(.slice zA nV.length Ae:Value).ownBlock) rfl rfl ?aP (fun k_ jQ=>((Kd.bG (ok':=fun k_=>((fun _=>True)) k_∧some k_ ≠ (u3:Value).ownBlock) (Kd.lA (gz.out) (Kd.akQ az.out) (by decide)) (fun k_ hk=>⟨trivial,hk.2⟩))).1 k_ jQ.symm) ?aF ?aO ?aB ?aS ?aL ?_;(case aP=>exact Kd.rz (Kd.bG (Kd.si rfl (Kd.bG (ok':=fun k_=>((fun _=>True)) k_∧some k_ ≠ (u3:Value).ownBlock) (Kd.lA (gz.out) (Kd.akQ az.out) (by decide)) (fun k_ hk=>⟨trivial,hk.2⟩))) (fun _ h_=>h_)));(case aB=>exact bl);(case aF=>exact (fun _ _=>trivial));(case aO=>exact (by (with_reducible repeat (first|apply Kd.gI|apply Kd.gJ|apply Kd.eT));exact Kd.iK az.out (fun k_ hk=>⟨trivial,fun e_=>hk.2 e_⟩)));(case aS=>exact (aU bl));(case aL=>have:=xQ.out;omega);intro aev fF ho hb hg cy;rw [← U0.out] at ho;have akf:=k0 (hb);have aD:=k0 (ho);clear HB;clear az;clear gz;have HB:=akf;have kO:=aD;clear akf aD;clear ho hb hg cy))
   go_roundg k1
   case measure=>have:=akl.out;omega
   case rel=>exact ⟨(SI),(wrap64 (fU+1)),rs,H',⟨by have:=akl.out;omega⟩,⟨aS (kO.out)⟩,⟨bl⟩⟩
end Go.Proofs.Ytoebojnhchocaaa.C
/- Set with little white space, by a program. -/
