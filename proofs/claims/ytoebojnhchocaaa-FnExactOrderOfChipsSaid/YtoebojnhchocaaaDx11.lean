/- The functions that one law reaches, each as a Lean function, and that Go's call comes to what it says. Condition of each: that the Lean function answers (is not none). -/
import Derived.Test.YtoebojnhchocaaaDx0
import Derived.Test.YtoebojnhchocaaaDx9
import Derived.Test.YtoebojnhchocaaaDx10
namespace Go.Proofs.Ytoebojnhchocaaa.D
open Go.RowKit Go.Proofs.bR.eC Go.Proofs.bR.je Go.Proofs.bR.jO
attribute [local go_sem] max2_int min2_int max_two min_two max_three min_three max_four min_four   -- for this text's walks alone
set_option linter.unusedVariables false
set_option linter.unusedSimpArgs false
/-! ### F190: function 190 -/
def qN.f (k:Nat) (af:Int) (aa:List (List Int)):Option (Int):=(dg.f k af aa).bind fun t102=>((iM.f k t102).bind fun t105=>(some t105))
theorem qN.mono:∀ a0 a1 k,aj (qN.f k a0 a1) (qN.f (k+1) a0 a1):=by
 intro a0 a1 k
 unfold qN.f
 repeat' first
  | (with_reducible first|exact dg.mono _ _ _|exact iM.mono _ _|exact aj.refl _|exact aj.none _|refine aj.ite ?_ ?_|refine aj.bind ?_ (fun _=>?_))
  | exact dg.mono _ _ _|exact iM.mono _ _|exact aj.none _|refine aj.ite ?_ ?_|refine aj.bind ?_ (fun _=>?_)
set_option maxHeartbeats 8000000 in
set_option maxRecDepth 100000 in
theorem qN.calls (k : Nat) (af : Int) (aq : Option Addr) (ak : Nat) (aa : List (List Int)) (r : Int) (w : World) (aly : Kd.C (Kd.slice 2 (Kd.int .i64)) w aq aa.length aa) (ck : aa.length ≤ ak) (h : qN.f k af aa = some r) :
  Calls Try.prog 190 #[.agg #[.int .i64 af,.slice aq aa.length ak]] w fun e w'=>e=.returned (.int .i64 r)∧Below w.heap.size w w':=by
 have j9:=Try.underlying31
 have bZ:=k0 aly
 have cD:=k0 ck
 clear aly ck
 have HB:=k0 (Below.refl w.heap.size w)
 have H:((dg.f k af aa).bind fun t102=>((iM.f k t102).bind fun t105=>(some t105)))=some r:=h
 clear h
 replace H:=Option.bind_eq_some_iff.mp H
 obtain ⟨t102,lW,H⟩:=H
 replace H:((iM.f k t102).bind fun t105=>(some t105))=some r:=H
 have A2:=k0 lW
 clear lW
 replace H:=Option.bind_eq_some_iff.mp H
 obtain ⟨t105,mj,H⟩:=H
 replace H:(some t105)=some r:=H
 have A3:=k0 mj
 clear mj
 obtain rfl:=Option.some.inj H
 go_enter Try.func190,Try.ntmps190
 go_wp2_with (first|((with_reducible refine cj (N:=1) rfl ?_);refine dK ?hg (N:=1) ?hd (cs:=#[.int .i64 af,.slice aq aa.length ak]) (t:=31) ?hr ?_;(case hd=>rfl);(case hg=>rfl);(case hr=>first|(go_simp;done)|(go_simp;rfl));intro ai hg w4 aJ hb;have ag:=k0 (aJ);have b8:=k0 ((by rw [hg];exact (alk bl):w.heap.size≤ai));have eB:=b8;replace HB:=k0 (aI bl hb);clear hb aJ hg;have sU:w4.cell? ⟨ai,0,none⟩=some (.int .i64 af):=(av ag.out 0).trans rfl;have sV:w4.cell? ⟨ai,1,none⟩=some (.slice aq aa.length ak):=(av ag.out 1).trans rfl;have sX:=aD ag.out 0;have sY:=aD ag.out 1)|((with_reducible refine dx (f:=229) rfl ?_);refine dy (some 4) rfl rfl Try.func229 (by kernel_rfl) rfl #[.agg #[.int .i64 af,.slice aq aa.length ak],.func (.func 230) #[] #[]] rfl gm ?_;(with_reducible refine (dg.calls k af _ _ aa t102 _ ?aT ?aU A2.out).mono ?_);(case aT=>exact aC (Kd.bK bZ.out HB.out));(case aU=>exact cD.out);rintro e w6 ⟨dn,rfl,aM,hb⟩;refine ⟨_,rfl,?_⟩;have bq:=k0 (Kd.dI aM (alk bl));replace ag:=k0 (alm (g:=ai) (o:=sO af aq aa ak 31) bk hb);replace HB:=k0 (aI bl hb);(try clear hb);(try clear aM);obtain ⟨Ui,Yn,Y0⟩:=Kd.eF bq.out;subst Y0)|((with_reducible refine dx (f:=228) rfl ?_);refine dy (some 5) rfl rfl Try.func228 (by kernel_rfl) rfl #[.slice Ui t102.length Yn] rfl gm ?_;(with_reducible refine (iM.calls k _ _ t102 t105 _ ?aT ?aU A3.out).mono ?_);(case aT=>exact aC ((Kd.bx bq.out).2.2));(case aU=>exact (Kd.bx bq.out).2.1);rintro e w' ⟨rfl,⟨nd,rfl⟩⟩;refine ⟨_,rfl,?_⟩))
 go_ret
 exact ⟨by first|rfl|(simp [bz,bA]<;>rfl)|(simp [*,bz,bA]<;>rfl),bl⟩
-- NOT PRINTED: function 103 (impl_connectedCode)
/-! ### F179: function 179 -/
def zT.f (af:Int) (aa:List (List Int)) (a1:Int):Option (Bool):=(gQ.f a1 0 (wrap64 (af - 1))).bind fun t102=>(some t102)
set_option maxHeartbeats 8000000 in
set_option maxRecDepth 100000 in
theorem zT.calls (af : Int) (aq : Option Addr) (ak : Nat) (aa : List (List Int)) (a1 : Int) (r : Bool) (w : World) (aly : Kd.C (Kd.slice 2 (Kd.int .i64)) w aq aa.length aa) (ck : aa.length ≤ ak) (h : zT.f af aa a1 = some r) :
  Calls Try.prog 179 #[.agg #[.int .i64 af,.slice aq aa.length ak],.int .i64 a1] w fun e w'=>e=.returned (.bool r)∧Below w.heap.size w w':=by
 have j9:=Try.underlying31
 have bZ:=k0 aly
 have cD:=k0 ck
 clear aly ck
 have HB:=k0 (Below.refl w.heap.size w)
 have H:((gQ.f a1 0 (wrap64 (af - 1))).bind fun t102=>(some t102))=some r:=h
 clear h
 replace H:=Option.bind_eq_some_iff.mp H
 obtain ⟨t102,mj,H⟩:=H
 replace H:(some t102)=some r:=H
 have A3:=k0 mj
 clear mj
 obtain rfl:=Option.some.inj H
 go_enter Try.func179,Try.ntmps179
 go_wp2_with (first|((with_reducible refine cj (N:=2) rfl ?_);refine dK ?hg (N:=2) ?hd (cs:=#[.int .i64 af,.slice aq aa.length ak]) (t:=31) ?hr ?_;(case hd=>rfl);(case hg=>rfl);(case hr=>first|(go_simp;done)|(go_simp;rfl));intro ai hg w4 aJ hb;have ag:=k0 (aJ);have b8:=k0 ((by rw [hg];exact (alk bl):w.heap.size≤ai));have eB:=b8;replace HB:=k0 (aI bl hb);clear hb aJ hg;have sU:w4.cell? ⟨ai,0,none⟩=some (.int .i64 af):=(av ag.out 0).trans rfl;have sV:w4.cell? ⟨ai,1,none⟩=some (.slice aq aa.length ak):=(av ag.out 1).trans rfl;have sX:=aD ag.out 0;have sY:=aD ag.out 1)|((with_reducible refine dx (f:=194) rfl ?_);refine dy (some 9) rfl rfl Try.func194 (by kernel_rfl) rfl #[.int .i64 a1,.int .i64 0,.int .i64 (wrap64 (af - 1))] rfl gm ?_;(with_reducible refine (gQ.calls a1 0 (wrap64 (af - 1)) t102 _ A3.out).mono ?_);rintro e w' ⟨rfl,⟨nd,rfl⟩⟩;refine ⟨_,rfl,?_⟩))
 go_ret
 exact ⟨by first|rfl|(simp [bz,bA]<;>rfl)|(simp [*,bz,bA]<;>rfl),bl⟩
/-! ### F182: function 182 -/
def oa (x:Int):Bool:=!(decide ((-200)≤x) && decide (x≤200))
theorem WG (x:Int) (w1:World):Calls Try.prog 221 #[.int .i64 x] w1 fun e w'=>e=.returned (.bool (oa x))∧bI w1 w':=by
 have h:gQ.f x (-200) 200=some (decide ((-200)≤x) && decide (x≤200)):=by
  unfold gQ.f
  by_cases h1:(-200)≤x<;>simp [h1]
 have HX:au (oa x=!(decide ((-200)≤x) && decide (x≤200))):=⟨rfl⟩
 generalize (decide ((-200)≤x) && decide (x≤200))=b at h HX
 go_enter Try.func221,Try.ntmps221
 go_wp2_with (go_at_call 194;refine (gQ.calls _ _ _ b _ h).mono ?_;rintro e w' ⟨rfl,⟨nd,rfl⟩⟩)
 go_ret
 exact ⟨by rw [HX.out];rfl,by repeat (first|exact bI.refl _|apply bI.step)⟩
theorem WE (p : Int → Bool) (A : Option Addr) (c : Nat) (l : List Int) (w : World) (hr : Kd.C (Kd.int .i64) w A l.length l)
 (hp:∀ x w1,Below w.heap.size w w1→Calls Try.prog 221 #[.int .i64 x] w1 fun e w'=>e=.returned (.bool (p x))∧Below w1.heap.size w1 w') :
 Calls Try.prog 188 #[.slice A l.length c,.func (.func 221) #[] #[]] w fun e w'=>e=.returned (.int .i64 (idxFrom p l 0))∧Below w.heap.size w w':=by
 have HR:=k0 hr
 have HP:=k0 hp
 have hlen:l.length≤9223372036854775807:=hr.2.1
 clear hr hp
 go_enter Try.func188,Try.ntmps188
 go_wp2_with fail
 go_loopw [8] (fun i wr=>∃ k:Nat,k≤l.length∧i=.int .i64 k∧au (idxFrom p (l.drop k) k=idxFrom p l 0)∧au (Below w.heap.size w wr)) (fun i _=>l.length - (intOf i).toNat)
 case atStart=>exact ⟨0,Nat.zero_le _,rfl,⟨by simp⟩,⟨Below.refl _ _⟩⟩
 case round =>
  obtain ⟨k,hk,rfl,HI,HB⟩:=hrel
  by_cases hlt:k < l.length
  case neg =>
   have HD:au (idxFrom p l 0=-1):=⟨by rw [← HI.out,List.drop_of_length_le (by omega)];rfl⟩
   have hb:decide (k < l.length)=false:=by simp;omega
   go_wp2
   go_ret
   exact ⟨by rw [HD.out];rfl,HB.out⟩
  obtain ⟨ad,e,hcell⟩:=Kd.bJ (Kd.bK HR.out HB.out) k (by omega) (by omega)
  cases e
  rw [Int.toNat_natCast] at hcell
  cases hpx:p (rd l k) with
  | true =>
   have HD:au (idxFrom p l 0=k):=⟨by rw [← HI.out,Bo p l k hlt,hpx];rfl⟩
   have HX:=k0 hpx
   clear hpx
   go_wp2_with (go_at_call 221;refine (HP.out _ _ HB.out).mono ?_;rw [HX.out];rintro e w' ⟨rfl,cr⟩;have fc:=k0 (aI HB.out cr);clear cr)
   go_ret
   exact ⟨by rw [HD.out];rfl,fc.out⟩
  | false =>
   have HD:au (idxFrom p (l.drop (k+1)) (k+1)=idxFrom p l 0):=⟨by rw [← HI.out,Bo p l k hlt,hpx];rfl⟩
   have HX:=k0 hpx
   clear hpx
   go_wp2_with (go_at_call 221;refine (HP.out _ _ HB.out).mono ?_;rw [HX.out];rintro e w' ⟨rfl,cr⟩;have fc:=k0 (aI HB.out cr);clear cr)
   go_roundw
   case rel=>exact ⟨k+1,by omega,by go_num,HD,fc⟩
   case measure=>simp [intOf];omega
theorem WD (p : Int → Bool) (A : Option Addr) (c : Nat) (l : List Int) (w : World) (hr : Kd.C (Kd.int .i64) w A l.length l)
 (hp:∀ x w1,Below w.heap.size w w1→Calls Try.prog 221 #[.int .i64 x] w1 fun e w'=>e=.returned (.bool (p x))∧Below w1.heap.size w1 w') :
 Calls Try.prog 98 #[.slice A l.length c,.func (.func 221) #[] #[]] w fun e w'=>e=.returned (.bool (l.any p))∧Below w.heap.size w w':=by
 have HC:=WE p A c l w hr hp
 have HX:au (l.any p=decide (0≤idxFrom p l 0)):=⟨(K4 p l 0).symm⟩
 have oN:=k0 HC
 clear HC hr hp
 go_enter Try.func98,Try.ntmps98
 go_wp2_with (go_at_call 188;refine oN.out.mono ?_;rintro e w' ⟨rfl,cr⟩;have fc:=k0 cr;clear cr)
 go_ret
 exact ⟨by rw [HX.out];rfl,fc.out⟩
def uY.f (af:Int) (aa:List (List Int)) (l1:List Int):Option Bool:=some (decide ((l1.length:Int)=af) && !(l1.any oa))
set_option maxHeartbeats 8000000 in
set_option maxRecDepth 100000 in
theorem uY.calls (af : Int) (aq : Option Addr) (ak : Nat) (aa : List (List Int)) (A1 : Option Addr) (c1 : Nat) (l1 : List Int) (r : Bool) (w : World) (aly : Kd.C (Kd.slice 2 (Kd.int .i64)) w aq aa.length aa) (ck : aa.length ≤ ak) (c_ : Kd.C (Kd.int .i64) w A1 l1.length l1) (eY : l1.length ≤ c1) (h : uY.f af aa l1 = some r) :
  Calls Try.prog 182 #[.agg #[.int .i64 af,.slice aq aa.length ak],.slice A1 l1.length c1] w fun e w'=>e=.returned (.bool r)∧Below w.heap.size w w':=by
 have HR:=k0 c_
 clear aly c_
 obtain rfl:=Option.some.inj h
 clear h
 by_cases hl:((l1.length:Int) == af)=true
 case neg =>
  have hl':((l1.length:Int) == af)=false:=by simpa using hl
  have HX:au ((decide ((l1.length:Int)=af) && !(l1.any oa))=false):=⟨by simp at hl;simp [hl]⟩
  clear hl
  go_enter Try.func182,Try.ntmps182
  go_wp2
  go_ret
  exact ⟨by rw [HX.out];rfl,((Below.refl _ _).alloc (Nat.le_refl _) _)⟩
 have HX:au ((decide ((l1.length:Int)=af) && !(l1.any oa))=!(l1.any oa)):=⟨by simp at hl;simp [hl]⟩
 have HC:=fun W h=>WD oa A1 c1 l1 W h (fun x w1 _=>(WG x w1).mono fun e w' ⟨h1,h2⟩=>⟨h1,h2.below⟩)
 have oN:=k0 HC
 clear HC
 go_enter Try.func182,Try.ntmps182
 go_wp2_with (go_at_call 98;refine (oN.out _ (Kd.kQ HR.out _)).mono ?_;rintro e w' ⟨rfl,cr⟩;have fc:=k0 (aI ((Below.refl _ _).alloc (Nat.le_refl _) _) cr);clear cr)
 go_ret
 exact ⟨by rw [HX.out];rfl,fc.out⟩
/-! ### F178: function 178 -/
theorem XS {b1 : Nat} (A : Option Addr) (c : Nat) (l : List Int) (fV : Int) (iL : Option Addr) (iR : Nat) (ey : List (List Int)) (r : Bool) (w : World) (hr : Kd.C (Kd.int .i64) w A l.length l) (hc : l.length ≤ c) (c_ : Kd.C (Kd.slice 2 (Kd.int .i64)) w iL ey.length ey) (eY : ey.length ≤ iR) (hb : w.heap[b1]? = some (sO fV iL ey iR 31)) (h : uY.f fV ey l = some r) :
  Calls Try.prog 181 #[.slice A l.length c,.pointer (some ⟨b1,0,none⟩)] w fun e w'=>e=.returned (.bool (!r))∧Below w.heap.size w w':=by
 have HC:=fun W (hw:Below w.heap.size w W)=>uY.calls fV iL iR ey A c l r W (Kd.bK c_ hw) eY (Kd.bK hr hw) hc h
 have oN:=k0 HC
 have RJ:w.cell? ⟨b1,0,none⟩=some (.int .i64 fV):=(av hb 0).trans rfl
 have Bg:w.cell? ⟨b1,1,none⟩=some (.slice iL ey.length iR):=(av hb 1).trans rfl
 have KB:=aD hb 0
 have xp:=aD hb 1
 clear HC hr c_ hb h
 go_enter Try.func181,Try.ntmps181
 go_wp2_with (go_at_call 182;refine (oN.out _ (by repeat (first|exact Below.refl _ _|apply dh|apply ek|apply cP))).mono ?_;rintro e w' ⟨rfl,cr⟩;have fc:=k0 (aI (by repeat (first|exact Below.refl _ _|apply dh|apply ek|apply cP)) cr:Below w.heap.size w w');clear cr)
 go_ret
 exact ⟨by first|rfl|(simp;done),(by repeat (first|exact fc.out|apply dh|apply ek|apply cP))⟩
theorem XR (p : List Int → Option Bool) (b1 : Nat) (A : Option Addr) (c : Nat) (l : List (List Int)) (R : Int) (w : World) (hr : Kd.C (Kd.slice 2 (Kd.int .i64)) w A l.length l)
 (hp:∀ (A':Option Addr) (c':Nat) (x:List Int) (b:Bool) w1,Below w.heap.size w w1→Kd.C (Kd.int .i64) w1 A' x.length x→x.length≤c'→p x=some b→Calls Try.prog 181 #[.slice A' x.length c',.pointer (some ⟨b1,0,none⟩)] w1 fun e w'=>e=.returned (.bool b)∧Below w1.heap.size w1 w') (h:nL p l 0=some R) :
 Calls Try.prog 220 #[.slice A l.length c,.func (.func 181) #[] #[.pointer (some ⟨b1,0,none⟩)]] w fun e w'=>e=.returned (.int .i64 R)∧Below w.heap.size w w':=by
 have HR:=k0 hr
 have HP:=k0 hp
 have H':=k0 h
 have hlen:l.length≤9223372036854775807:=hr.2.1
 clear hr hp h
 go_enter Try.func220,Try.ntmps220
 go_wp2_with fail
 go_loopw [8] (fun i wr=>∃ k:Nat,k≤l.length∧i=.int .i64 k∧au (nL p (l.drop k) k=some R)∧au (Below w.heap.size w wr)) (fun i _=>l.length - (intOf i).toNat)
 case atStart=>exact ⟨0,Nat.zero_le _,rfl,⟨by simpa using H'.out⟩,⟨Below.refl _ _⟩⟩
 case round =>
  clear H'
  obtain ⟨k,hk,rfl,HI,HB⟩:=hrel
  by_cases hlt:k < l.length
  case neg =>
   have hI:=HI.out
   rw [List.drop_of_length_le (by omega)] at hI
   simp only [nL,Option.some.injEq] at hI
   subst hI
   have hb:decide (k < l.length)=false:=by simp;omega
   go_wp2
   go_ret
   exact ⟨rfl,HB.out⟩
  have hI:=HI.out
  rw [List.drop_eq_getElem_cons hlt] at hI
  simp only [nL] at hI
  obtain ⟨b,hb,hI⟩:=Option.bind_eq_some_iff.mp hI
  obtain ⟨ad,A',c',e,hcell,hlc,hC⟩:=cX (Kd.bK HR.out HB.out) (k:Int) (by omega) (by omega)
  cases e
  rw [Int.toNat_natCast] at hcell
  have hx:ah l (k:Int)=l[k]:=by simp [ah,List.getD_eq_getElem?_getD,hlt]
  rw [hx] at hcell hlc hC
  have BV:=k0 hC
  have B0:=k0 hlc
  have BU:=k0 hb
  clear hC hlc hb hx
  cases b with
  | true =>
   simp only [if_true,Option.some.injEq] at hI
   subst hI
   go_wp2_with (go_at_call 181;refine (HP.out _ _ _ true _ HB.out BV.out B0.out BU.out).mono ?_;rintro e w' ⟨rfl,cr⟩;have fc:=k0 (aI HB.out cr);clear cr)
   go_ret
   exact ⟨rfl,fc.out⟩
  | false =>
   simp only [Bool.false_eq_true,if_false] at hI
   have HD:=k0 hI
   clear hI
   go_wp2_with (go_at_call 181;refine (HP.out _ _ _ false _ HB.out BV.out B0.out BU.out).mono ?_;rintro e w' ⟨rfl,cr⟩;have fc:=k0 (aI HB.out cr);clear cr)
   go_roundw
   case rel=>exact ⟨k+1,by omega,by go_num,HD,fc⟩
   case measure=>simp [intOf];omega
theorem XQ {b1 : Nat} (fV : Int) (iL : Option Addr) (iR : Nat) (ey : List (List Int)) (A : Option Addr) (c : Nat) (l : List (List Int)) (i : Int) (w : World) (hr : Kd.C (Kd.slice 2 (Kd.int .i64)) w A l.length l) (c_ : Kd.C (Kd.slice 2 (Kd.int .i64)) w iL ey.length ey) (eY : ey.length ≤ iR) (hb : w.heap[b1]? = some (sO fV iL ey iR 31)) (hi : nL (fun x => (uY.f fV ey x).map not) l 0 = some i) :
  Calls Try.prog 180 #[.slice A l.length c,.func (.func 181) #[] #[.pointer (some ⟨b1,0,none⟩)]] w fun e w'=>e=.returned (.bool (decide (0≤i)))∧Below w.heap.size w w':=by
 have HC:=fun W (hw:Below w.heap.size w W)=>XR (fun x=>(uY.f fV ey x).map not) b1 A c l i W (Kd.bK hr hw) (fun A' c' x b w1 hw1 hC hc hx=>by
  obtain ⟨b',hb',rfl⟩:=Option.map_eq_some_iff.1 hx
  exact XS A' c' x fV iL iR ey b' w1 hC hc (Kd.bK c_ (aI hw hw1)) eY (alm hb (aI hw hw1)) hb') hi
 have oN:=k0 HC
 clear HC hr c_ hb hi
 go_enter Try.func180,Try.ntmps180
 go_wp2_with (go_at_call 220;refine (oN.out _ (Below.refl _ _)).mono ?_;rintro e w' ⟨rfl,cr⟩;have fc:=k0 cr;clear cr)
 go_ret
 exact ⟨by first|rfl|(simp;done),fc.out⟩
theorem Jm {b1 b2 b3 : Nat} (fV : Int) (iL : Option Addr) (iR : Nat) (ey : List (List Int)) (a2 : Int) (A3 : Option Addr) (c3 : Nat) (l3 : List (List Int)) (q r : Bool) (w : World) (c_ : Kd.C (Kd.slice 2 (Kd.int .i64)) w iL ey.length ey) (eY : ey.length ≤ iR) (qB : Kd.C (Kd.slice 2 (Kd.int .i64)) w A3 l3.length l3) (hb1 : w.heap[b1]? = some (sO fV iL ey iR 31)) (hb2 : w.heap[b2]? = some (.cells #[.int .i64 a2] 2 (0, 0))) (hb3 : w.heap[b3]? = some (.cells #[.slice A3 l3.length c3] 22 (0, 0))) (hq : zT.f fV ey a2 = some q) (hi : q = true → ∃ i, nL (fun x => (uY.f fV ey x).map not) l3 0 = some i ∧ r = !(decide (0 ≤ i))) (hn : q = false → r = false) :
  Calls Try.prog 178 #[.pointer (some ⟨b1,0,none⟩),.pointer (some ⟨b2,0,none⟩),.pointer (some ⟨b3,0,none⟩)] w fun e w'=>e=.returned (.bool r)∧Below w.heap.size w w':=by
 have HV:=fun W (hw:Below w.heap.size w W)=>zT.calls fV iL iR ey a2 q W (Kd.bK c_ hw) eY hq
 have NQ:=k0 HV
 have BK1:=k0 hb1
 have BK2:=k0 hb2
 have MY:=k0 hb3
 have HB0:=k0 (Below.refl w.heap.size w)
 have ahA:w.cell? ⟨b1,0,none⟩=some (.int .i64 fV):=(av hb1 0).trans rfl
 have ahB:w.cell? ⟨b1,1,none⟩=some (.slice iL ey.length iR):=(av hb1 1).trans rfl
 have ahC:w.cell? ⟨b2,0,none⟩=some (.int .i64 a2):=(av hb2 0).trans rfl
 have aia:=aD hb1 0
 have aib:=aD hb1 1
 have aic:=aD hb2 0
 cases q with
 | false =>
  obtain rfl:=hn rfl
  clear HV c_ qB hb1 hb2 hb3 hq hi hn
  go_enter Try.func178,Try.ntmps178
  go_wp2_with (go_at_call 179;refine (NQ.out _ (by repeat (first|exact Below.refl _ _|apply dh|apply ek|apply cP))).mono ?_;rintro e w2 ⟨rfl,cr⟩;have fc:=k0 (aI (by repeat (first|exact Below.refl _ _|apply dh|apply ek|apply cP)) cr:Below w.heap.size w w2);clear cr)
  go_ret
  exact ⟨by first|rfl|(simp;done),(by repeat (first|exact fc.out|apply dh|apply ek|apply cP))⟩
 | true =>
  obtain ⟨i,hi1,rfl⟩:=hi rfl
  have HC:=fun W (hw:Below w.heap.size w W)=>XQ fV iL iR ey A3 c3 l3 i W (Kd.bK qB hw) (Kd.bK c_ hw) eY (alm hb1 hw) hi1
  have oN:=k0 HC
  clear HV HC c_ qB hb1 hb2 hb3 hq hi hn
  go_enter Try.func178,Try.ntmps178
  go_wp2_with (first|(go_at_call 179;refine (NQ.out _ (by repeat (first|exact Below.refl _ _|apply dh|apply ek|apply cP))).mono ?_;rintro e w2 ⟨rfl,cr⟩;have fc:=k0 (aI (by repeat (first|exact Below.refl _ _|apply dh|apply ek|apply cP)) cr:Below w.heap.size w w2);clear cr;have ahY:w2.cell? ⟨b3,0,none⟩=some (.slice A3 l3.length c3):=(av (alm MY.out fc.out) 0).trans rfl;have aiz:=aD (alm MY.out fc.out) 0)|(go_at_call 180;refine (oN.out _ (by repeat (first|exact fc.out|apply dh|apply ek|apply cP))).mono ?_;rintro e w3 ⟨rfl,cr⟩;have U4:=k0 (aI (by repeat (first|exact fc.out|apply dh|apply ek|apply cP)) cr:Below w.heap.size w w3);clear cr))
  go_ret
  exact ⟨by first|rfl|(simp;done),(by repeat (first|exact U4.out|apply dh|apply ek|apply cP))⟩
theorem Fy {b1 b2 b3 : Nat} (k : Nat) (af : Int) (aq : Option Addr) (ak : Nat) (aa : List (List Int)) (b r : Bool) (w : World) (cS : Kd.C (Kd.slice 2 (Kd.int .i64)) w aq aa.length aa) (hc0 : aa.length ≤ ak) (hb : alP.f k af aa = some b) (hcl : b = true → ∀ W, Below w.heap.size w W → Calls Try.prog 178 #[.pointer (some ⟨b1, 0, none⟩), .pointer (some ⟨b2, 0, none⟩), .pointer (some ⟨b3, 0, none⟩)] W fun e w' => e = .returned (.bool r) ∧ Below W.heap.size W w') :
  Calls Try.prog 125 #[.agg #[.int .i64 af,.slice aq aa.length ak],.func (.func 178) #[] #[.pointer (some ⟨b1,0,none⟩),.pointer (some ⟨b2,0,none⟩),.pointer (some ⟨b3,0,none⟩)]] w fun e w'=>e=.returned (.int .i64 (if b=true then (if r=true then 0 else 2) else 1))∧Below w.heap.size w w':=by
 have HG:=fun W (hw:Below w.heap.size w W)=>alP.calls k af aq ak aa b W (Kd.bK cS hw) hc0 hb
 have H6:=k0 HG
 clear HG cS hb
 cases b with
 | false =>
  clear hcl
  go_enter Try.func125,Try.ntmps125
  go_wp2_with (go_at_call 106;refine (H6.out _ (by repeat (first|exact Below.refl _ _|apply dh|apply ek|apply cP))).mono ?_;rintro e w1 ⟨rfl,cr⟩;have kS:=k0 (aI (by repeat (first|exact Below.refl _ _|apply dh|apply ek|apply cP)) cr:Below w.heap.size w w1);clear cr)
  go_ret
  exact ⟨by first|rfl|(simp;done),(by repeat (first|exact kS.out|apply dh|apply ek|apply cP))⟩
 | true =>
  have oN:=k0 (hcl rfl)
  clear hcl
  cases r with
  | false =>
   go_enter Try.func125,Try.ntmps125
   go_wp2_with (first|(go_at_call 106;refine (H6.out _ (by repeat (first|exact Below.refl _ _|apply dh|apply ek|apply cP))).mono ?_;rintro e w1 ⟨rfl,cr⟩;have kS:=k0 (aI (by repeat (first|exact Below.refl _ _|apply dh|apply ek|apply cP)) cr:Below w.heap.size w w1);clear cr)|(go_at_call 178;refine (oN.out _ (by repeat (first|exact kS.out|apply dh|apply ek|apply cP))).mono ?_;rintro e w2 ⟨rfl,cr⟩;have fc:=k0 (aI (by repeat (first|exact kS.out|apply dh|apply ek|apply cP)) cr:Below w.heap.size w w2);clear cr))
   go_ret
   exact ⟨by first|rfl|(simp;done),(by repeat (first|exact fc.out|apply dh|apply ek|apply cP))⟩
  | true =>
   go_enter Try.func125,Try.ntmps125
   go_wp2_with (first|(go_at_call 106;refine (H6.out _ (by repeat (first|exact Below.refl _ _|apply dh|apply ek|apply cP))).mono ?_;rintro e w1 ⟨rfl,cr⟩;have kS:=k0 (aI (by repeat (first|exact Below.refl _ _|apply dh|apply ek|apply cP)) cr:Below w.heap.size w w1);clear cr)|(go_at_call 178;refine (oN.out _ (by repeat (first|exact kS.out|apply dh|apply ek|apply cP))).mono ?_;rintro e w2 ⟨rfl,cr⟩;have fc:=k0 (aI (by repeat (first|exact kS.out|apply dh|apply ek|apply cP)) cr:Below w.heap.size w w2);clear cr))
   go_ret
   exact ⟨by first|rfl|(simp;done),(by repeat (first|exact fc.out|apply dh|apply ek|apply cP))⟩
def qM.f (k:Nat) (af:Int) (aa:List (List Int)) (fV:Int) (ey:List (List Int)) (a2:Int) (l3:List (List Int)):Option Int :=
 (alP.f k af aa).bind fun b=>if b=true then ((zT.f fV ey a2).bind fun q=>if q=true then ((nL (fun x=>(uY.f fV ey x).map not) l3 0).bind fun i=>if 0≤i then some 2 else (qN.f k af aa).bind fun p=>if p=1 then some 0 else some 5) else some 2) else some 1
theorem qM.mono:∀ a0 a1 a2 a3 a4 a5 k,aj (qM.f k a0 a1 a2 a3 a4 a5) (qM.f (k+1) a0 a1 a2 a3 a4 a5):=by
 intro a0 a1 a2 a3 a4 a5 k
 unfold qM.f
 repeat' first
  | (with_reducible first|exact qN.mono _ _ _|exact alP.mono _ _ _|exact aj.refl _|exact aj.none _|refine aj.ite ?_ ?_|refine aj.bind ?_ (fun _=>?_))
  | exact qN.mono _ _ _|exact alP.mono _ _ _|exact aj.none _|refine aj.ite ?_ ?_|refine aj.bind ?_ (fun _=>?_)
set_option maxHeartbeats 8000000 in
set_option maxRecDepth 100000 in
theorem qM.calls {b1 b2 b3 : Nat} (k : Nat) (af : Int) (aq : Option Addr) (ak : Nat) (aa : List (List Int)) (fV : Int) (iL : Option Addr) (iR : Nat) (ey : List (List Int)) (a2 : Int) (A3 : Option Addr) (c3 : Nat) (l3 : List (List Int)) (r : Int) (w : World) (aly : Kd.C (Kd.slice 2 (Kd.int .i64)) w aq aa.length aa) (ck : aa.length ≤ ak) (xF : Kd.C (Kd.slice 2 (Kd.int .i64)) w iL ey.length ey) (AW : ey.length ≤ iR) (qB : Kd.C (Kd.slice 2 (Kd.int .i64)) w A3 l3.length l3) (hc3 : l3.length ≤ c3) (hb1 : w.heap[b1]? = some (sO fV iL ey iR 31)) (hb2 : w.heap[b2]? = some (.cells #[.int .i64 a2] 2 (0, 0))) (hb3 : w.heap[b3]? = some (.cells #[.slice A3 l3.length c3] 22 (0, 0))) (h : qM.f k af aa fV ey a2 l3 = some r) :
  Calls Try.prog 103 #[.agg #[.int .i64 af,.slice aq aa.length ak],.func (.func 178) #[] #[.pointer (some ⟨b1,0,none⟩),.pointer (some ⟨b2,0,none⟩),.pointer (some ⟨b3,0,none⟩)]] w fun e w'=>e=.returned (.int .i64 r)∧Below w.heap.size w w':=by
 unfold qM.f at h
 obtain ⟨b,hb,h⟩:=Option.bind_eq_some_iff.mp h
 have key:∃ c:Int,(∀ W,Below w.heap.size w W→Calls Try.prog 125 #[.agg #[.int .i64 af,.slice aq aa.length ak],.func (.func 178) #[] #[.pointer (some ⟨b1,0,none⟩),.pointer (some ⟨b2,0,none⟩),.pointer (some ⟨b3,0,none⟩)]] W fun e w'=>e=.returned (.int .i64 c)∧Below W.heap.size W w')∧((c ≠ 0∧r=c∧(c == 0)=false)∨(c=0∧∃ p,qN.f k af aa=some p∧((p=1∧r=0)∨(p ≠ 1∧r=5)))):=by
  cases b with
  | false =>
   simp only [Bool.false_eq_true,if_false,Option.some.injEq] at h
   subst h
   exact ⟨1,fun W hw=>Fy k af aq ak aa false true W (Kd.bK aly hw) ck hb (fun h=>by simp at h),.inl ⟨by decide,rfl,rfl⟩⟩
  | true =>
   simp only [if_true] at h
   obtain ⟨q,hq,h⟩:=Option.bind_eq_some_iff.mp h
   cases q with
   | false =>
    simp only [Bool.false_eq_true,if_false,Option.some.injEq] at h
    subst h
    exact ⟨2,fun W hw=>Fy k af aq ak aa true false W (Kd.bK aly hw) ck hb (fun _ W1 hw1=>Jm fV iL iR ey a2 A3 c3 l3 false false W1 (Kd.bK xF (aI hw hw1)) AW (Kd.bK qB (aI hw hw1)) (alm hb1 (aI hw hw1)) (alm hb2 (aI hw hw1)) (alm hb3 (aI hw hw1)) hq (fun h=>by simp at h) (fun _=>rfl)),.inl ⟨by decide,rfl,rfl⟩⟩
   | true =>
    simp only [if_true] at h
    obtain ⟨i,hi,h⟩:=Option.bind_eq_some_iff.mp h
    by_cases h0:0≤i
    case neg =>
     rw [if_neg h0] at h
     obtain ⟨p,hp,h⟩:=Option.bind_eq_some_iff.mp h
     refine ⟨0,fun W hw=>Fy k af aq ak aa true true W (Kd.bK aly hw) ck hb (fun _ W1 hw1=>Jm fV iL iR ey a2 A3 c3 l3 true true W1 (Kd.bK xF (aI hw hw1)) AW (Kd.bK qB (aI hw hw1)) (alm hb1 (aI hw hw1)) (alm hb2 (aI hw hw1)) (alm hb3 (aI hw hw1)) hq (fun _=>⟨i,hi,by simp [h0]⟩) (fun h=>by simp at h)),.inr ⟨rfl,p,hp,?_⟩⟩
     by_cases h1:p=1
     case neg =>
      rw [if_neg h1] at h
      exact .inr ⟨h1,(Option.some.inj h).symm⟩
     rw [if_pos h1] at h
     exact .inl ⟨h1,(Option.some.inj h).symm⟩
    rw [if_pos h0] at h
    obtain rfl:=Option.some.inj h
    exact ⟨2,fun W hw=>Fy k af aq ak aa true false W (Kd.bK aly hw) ck hb (fun _ W1 hw1=>Jm fV iL iR ey a2 A3 c3 l3 true false W1 (Kd.bK xF (aI hw hw1)) AW (Kd.bK qB (aI hw hw1)) (alm hb1 (aI hw hw1)) (alm hb2 (aI hw hw1)) (alm hb3 (aI hw hw1)) hq (fun _=>⟨i,hi,by simp [h0]⟩) (fun h=>by simp at h)),.inl ⟨by decide,rfl,rfl⟩⟩
 clear h hb
 obtain ⟨c,HK,hc⟩:=key
 have H7:=k0 HK
 clear HK
 rcases hc with ⟨hc0,rfl,hcb⟩|⟨rfl,p,hp,hc⟩
 ·clear aly xF qB hb1 hb2 hb3
  have hcd:decide (r=0)=false:=by simpa using hc0
  go_enter Try.func103,Try.ntmps103
  go_wp2_with (go_at_call 125;refine (H7.out _ (by repeat (first|exact Below.refl _ _|apply dh|apply ek|apply cP))).mono ?_;rintro e w1 ⟨rfl,cr⟩;have kS:=k0 (aI (by repeat (first|exact Below.refl _ _|apply dh|apply ek|apply cP)) cr:Below w.heap.size w w1);clear cr)
  go_ret
  exact ⟨by first|rfl|(simp;done),(by repeat (first|exact kS.out|apply dh|apply ek|apply cP))⟩
 ·have HP := fun W (hw : Below w.heap.size w W) => qN.calls k af aq ak aa p W (Kd.bK aly hw) ck hp
  have NB:=k0 HP
  clear HP aly xF qB hb1 hb2 hb3 hp
  rcases hc with ⟨rfl,rfl⟩|⟨h1,rfl⟩
  ·go_enter Try.func103, Try.ntmps103
   go_wp2_with (first|(go_at_call 125;refine (H7.out _ (by repeat (first|exact Below.refl _ _|apply dh|apply ek|apply cP))).mono ?_;rintro e w1 ⟨rfl,cr⟩;have kS:=k0 (aI (by repeat (first|exact Below.refl _ _|apply dh|apply ek|apply cP)) cr:Below w.heap.size w w1);have abQ:w1.cell? ⟨w.heap.size,0,none⟩=some (.int .i64 af):=(cr.cell (p:=⟨w.heap.size,0,none⟩) (by simp)).trans (by go_simp);have abS:w1.cell? ⟨w.heap.size,1,none⟩=some (.slice aq aa.length ak):=(cr.cell (p:=⟨w.heap.size,1,none⟩) (by simp)).trans (by go_simp);clear cr)|(go_at_call 190;refine (NB.out _ (by repeat (first|exact kS.out|apply dh|apply ek|apply cP))).mono ?_;rintro e w2 ⟨rfl,cr⟩;have fc:=k0 (aI (by repeat (first|exact kS.out|apply dh|apply ek|apply cP)) cr:Below w.heap.size w w2);clear cr))
   go_ret
   exact ⟨by first|rfl|(simp;done),(by repeat (first|exact fc.out|apply dh|apply ek|apply cP))⟩
  ·have h1b : (p == 1) = false := by simpa using h1
   go_enter Try.func103,Try.ntmps103
   go_wp2_with (first|(go_at_call 125;refine (H7.out _ (by repeat (first|exact Below.refl _ _|apply dh|apply ek|apply cP))).mono ?_;rintro e w1 ⟨rfl,cr⟩;have kS:=k0 (aI (by repeat (first|exact Below.refl _ _|apply dh|apply ek|apply cP)) cr:Below w.heap.size w w1);have abQ:w1.cell? ⟨w.heap.size,0,none⟩=some (.int .i64 af):=(cr.cell (p:=⟨w.heap.size,0,none⟩) (by simp)).trans (by go_simp);have abS:w1.cell? ⟨w.heap.size,1,none⟩=some (.slice aq aa.length ak):=(cr.cell (p:=⟨w.heap.size,1,none⟩) (by simp)).trans (by go_simp);clear cr)|(go_at_call 190;refine (NB.out _ (by repeat (first|exact kS.out|apply dh|apply ek|apply cP))).mono ?_;rintro e w2 ⟨rfl,cr⟩;have fc:=k0 (aI (by repeat (first|exact kS.out|apply dh|apply ek|apply cP)) cr:Below w.heap.size w w2);clear cr))
   go_ret
   exact ⟨by first|rfl|(simp;done),(by repeat (first|exact fc.out|apply dh|apply ek|apply cP))⟩
/-! ### F92: function 92 -/
def nD.f (k:Nat) (af:Int) (aa:List (List Int)) (a1:Int) (l2:List (List Int)):Option (Int):=(qM.f k af aa af aa a1 l2).bind fun t104=>(some t104)
theorem nD.mono:∀ a0 a1 a2 a3 k,aj (nD.f k a0 a1 a2 a3) (nD.f (k+1) a0 a1 a2 a3):=by
 intro a0 a1 a2 a3 k
 unfold nD.f
 repeat' first
  | (with_reducible first|exact qM.mono _ _ _ _ _ _ _|exact aj.refl _|exact aj.none _|refine aj.ite ?_ ?_|refine aj.bind ?_ (fun _=>?_))
  | exact qM.mono _ _ _ _ _ _ _|exact aj.none _|refine aj.ite ?_ ?_|refine aj.bind ?_ (fun _=>?_)
set_option maxHeartbeats 8000000 in
set_option maxRecDepth 100000 in
theorem nD.calls (k : Nat) (af : Int) (aq : Option Addr) (ak : Nat) (aa : List (List Int)) (a1 : Int) (A2 : Option Addr) (c2 : Nat) (l2 : List (List Int)) (r : Int) (w : World) (aly : Kd.C (Kd.slice 2 (Kd.int .i64)) w aq aa.length aa) (ck : aa.length ≤ ak) (o5 : Kd.C (Kd.slice 2 (Kd.int .i64)) w A2 l2.length l2) (uy : l2.length ≤ c2) (h : nD.f k af aa a1 l2 = some r) :
  Calls Try.prog 92 #[.agg #[.int .i64 af,.slice aq aa.length ak],.int .i64 a1,.slice A2 l2.length c2] w fun e w'=>e=.returned (.int .i64 r)∧Below w.heap.size w w':=by
 have j9:=Try.underlying31
 have bZ:=k0 aly
 have cD:=k0 ck
 clear aly ck
 have yb:=k0 o5
 have wE:=k0 uy
 clear o5 uy
 have HB:=k0 (Below.refl w.heap.size w)
 have H:((qM.f k af aa af aa a1 l2).bind fun t104=>(some t104))=some r:=h
 clear h
 replace H:=Option.bind_eq_some_iff.mp H
 obtain ⟨t104,lM,H⟩:=H
 replace H:(some t104)=some r:=H
 have A4:=k0 lM
 clear lM
 obtain rfl:=Option.some.inj H
 go_enter Try.func92,Try.ntmps92
 go_wp2_with (first|((with_reducible refine cj (N:=3) rfl ?_);refine dK ?hg (N:=3) ?hd (cs:=#[.int .i64 af,.slice aq aa.length ak]) (t:=31) ?hr ?_;(case hd=>rfl);(case hg=>rfl);(case hr=>first|(go_simp;done)|(go_simp;rfl));intro ai hg w5 aJ hb;have ag:=k0 (aJ);have b8:=k0 ((by rw [hg];exact (alk bl):w.heap.size≤ai));have eB:=b8;replace HB:=k0 (aI bl hb);clear hb aJ hg)|((with_reducible refine cj (N:=4) rfl ?_);refine dK ?hg (N:=4) ?hd (cs:=#[.int .i64 a1]) (t:=2) ?hr ?_;(case hd=>rfl);(case hg=>rfl);(case hr=>first|(go_simp;done)|(go_simp;rfl));intro fM hg w6 aJ hb;have jy:=k0 (aJ);have uZ:=k0 ((by rw [hg];exact (alk bl):w.heap.size≤fM));have EU:=uZ;replace HB:=k0 (aI bl hb);have vk:=k0 ((by rw [hg];exact Nat.ne_of_lt (cJ (g:=ai) (o:=sO af aq aa ak 31) bk):ai ≠ fM));have vo:=k0 ((by rw [hg];exact Nat.ne_of_gt (cJ (g:=ai) (o:=sO af aq aa ak 31) bk):fM ≠ ai));replace ag:=k0 (alm (g:=ai) (o:=sO af aq aa ak 31) bk hb);clear hb aJ hg)|((with_reducible refine cj (N:=5) rfl ?_);refine dK ?hg (N:=5) ?hd (cs:=#[.slice A2 l2.length c2]) (t:=22) ?hr ?_;(case hd=>rfl);(case hg=>rfl);(case hr=>first|(go_simp;done)|(go_simp;rfl));intro l8 hg w7 aJ hb;have aE:=k0 (alm (g:=ai) (o:=sO af aq aa ak 31) bk hb);have aH:=k0 (alm (g:=fM) (o:=.cells #[.int .i64 a1] 2 (0,0)) bk hb);have aK:=k0 (aI bl hb);have a_:=k0 (aJ);have alp:=k0 ((by rw [hg];exact (alk bl):w.heap.size≤l8));have bw:=k0 ((by rw [hg];exact (alk bl):w.heap.size≤l8));have alx:=k0 ((by rw [hg];exact Nat.ne_of_lt (cJ (g:=ai) (o:=sO af aq aa ak 31) bk):ai ≠ l8));have cL:=k0 ((by rw [hg];exact Nat.ne_of_gt (cJ (g:=ai) (o:=sO af aq aa ak 31) bk):l8 ≠ ai));have dL:=k0 ((by rw [hg];exact Nat.ne_of_lt (cJ (g:=fM) (o:=.cells #[.int .i64 a1] 2 (0,0)) bk):fM ≠ l8));have eZ:=k0 ((by rw [hg];exact Nat.ne_of_gt (cJ (g:=fM) (o:=.cells #[.int .i64 a1] 2 (0,0)) bk):l8 ≠ fM));clear ag;clear jy;clear HB;have ag:=aE;have jy:=aH;have HB:=aK;have qL:=a_;have U1:=alp;have US:=bw;have E_:=alx;have IP:=cL;have Fa:=dL;have NV:=eZ;clear aE aH aK a_ alp bw alx cL dL eZ;clear hb aJ hg;have abI:=vk.out;have abM:=vo.out;have abJ:=E_.out;have abN:=IP.out;have rW:w7.cell? ⟨ai,0,none⟩=some (.int .i64 af):=(av ag.out 0).trans rfl;have rX:w7.cell? ⟨ai,1,none⟩=some (.slice aq aa.length ak):=(av ag.out 1).trans rfl;have r3:=aD ag.out 0;have r4:=aD ag.out 1)|((with_reducible refine dx (f:=103) rfl ?_);refine dy (some 9) rfl rfl Try.func103 (by kernel_rfl) rfl #[.agg #[.int .i64 af,.slice aq aa.length ak],.func (.func 178) #[] #[.pointer (some ⟨ai,0,none⟩),.pointer (some ⟨fM,0,none⟩),.pointer (some ⟨l8,0,none⟩)]] rfl gm ?_;(with_reducible refine (qM.calls k af _ _ aa af aq ak aa a1 A2 c2 l2 t104 _ ?aT ?aU ?cy ?cI ?rq ?ru ?Eu ?anw ?Ew A4.out).mono ?_);(case aT=>exact aC (Kd.bK bZ.out HB.out));(case aU=>exact cD.out);(case cy=>exact aC (Kd.bK bZ.out HB.out));(case cI=>exact cD.out);(case rq=>exact aC (Kd.bK yb.out HB.out));(case ru=>exact wE.out);(case Eu=>exact by exact bk);(case anw=>exact by exact bk);(case Ew=>exact by exact bk);rintro e alE ⟨rfl,hb⟩;refine ⟨_,rfl,?_⟩;have aE:=k0 (alm (g:=ai) (o:=sO af aq aa ak 31) bk hb);have aH:=k0 (alm (g:=fM) (o:=.cells #[.int .i64 a1] 2 (0,0)) bk hb);have aK:=k0 (alm (g:=l8) (o:=.cells #[.slice A2 l2.length c2] 22 (0,0)) bk hb);have a_:=k0 (aI bl hb);clear ag;clear jy;clear qL;clear HB;have ag:=aE;have jy:=aH;have qL:=aK;have HB:=a_;clear aE aH aK a_;(try clear hb)))
 go_ret
 exact ⟨by first|rfl|(simp [bz,bA]<;>rfl)|(simp [*,bz,bA]<;>rfl),bl⟩
-- NOT PRINTED: function 188 (slices_IndexFunc_int64_int64_188)
-- NOT PRINTED: function 98 (slices_ContainsFunc_int64_int64)
/-! ### F115: function 115 -/
def alQ.l0 : Nat → List Int → Int → Int → Option (List Int)
 | 0,_,_,_=>none
 | k+1,x3,x7,x8=>if x8 < x7 then (if x3.length < 17592186044416 then (alQ.l0 k (x3 ++ [x8]) x7 (wrap64 (x8+1))) else (none)) else (some x3)
def alQ.f (k:Nat) (af:Int) (aa:List (List Int)):Option (List Int):=alQ.l0 k (([]:List Int)) af 0
theorem alQ.bU : ∀ k, (∀ y0 y1 y2, aj (alQ.l0 k y0 y1 y2) (alQ.l0 (k + 1) y0 y1 y2))
 | 0=>fun _ _ _ r h=>by simp [alQ.l0] at h
 | k+1=>by
  have alg:=alQ.bU k
  ·intro y0 y1 y2
   unfold alQ.l0
   repeat' first
    | (with_reducible first|exact alg _ _ _|exact aj.refl _|exact aj.none _|refine aj.ite ?_ ?_|refine aj.bind ?_ (fun _=>?_))
    | exact alg _ _ _|exact aj.none _|refine aj.ite ?_ ?_|refine aj.bind ?_ (fun _=>?_)
theorem alQ.mono:∀ a0 a1 k,aj (alQ.f k a0 a1) (alQ.f (k+1) a0 a1):=by
 intro a0 a1 k
 have alg:=alQ.bU k
 unfold alQ.f
 repeat' first
  | (with_reducible first|exact alg _ _ _|exact aj.refl _|exact aj.none _|refine aj.ite ?_ ?_|refine aj.bind ?_ (fun _=>?_))
  | exact alg _ _ _|exact aj.none _|refine aj.ite ?_ ?_|refine aj.bind ?_ (fun _=>?_)
set_option maxHeartbeats 8000000 in
set_option maxRecDepth 100000 in
theorem alQ.calls (k : Nat) (af : Int) (aq : Option Addr) (ak : Nat) (aa : List (List Int)) (r : List Int) (w : World) (aly : Kd.C (Kd.slice 2 (Kd.int .i64)) w aq aa.length aa) (ck : aa.length ≤ ak) (h : alQ.f k af aa = some r) :
  Calls Try.prog 115 #[.agg #[.int .i64 af,.slice aq aa.length ak]] w fun e w'=>∃ dH:Value,e=.returned (dH)∧Kd.R (Kd.int .i64) 2 w' w.heap.size (fun _=>True) dH r∧Below w.heap.size w w':=by
 have j9:=Try.underlying31
 have bZ:=k0 aly
 have cD:=k0 ck
 clear aly ck
 have HB:=k0 (Below.refl w.heap.size w)
 have H:(alQ.l0 k (([]:List Int)) af 0)=some r:=h
 clear h
 obtain ⟨alD,eM⟩:∃ y_:List Int,y_=(([]:List Int)):=⟨_,rfl⟩
 replace H:(alQ.l0 k alD af 0)=some r:=by first|(rw [eM];with_reducible exact H)|(have ax:=(Option.bind_some _ _).symm.trans H;rw [eM];with_reducible exact ax)|(have ax:=(Option.bind_some _ _).symm.trans H;with_reducible exact ax)|with_reducible exact H|(rw [eM];exact H)|exact H
 have gz:=k0 eM
 clear eM
 have H':=k0 H
 clear H
 go_enter Try.func115,Try.ntmps115
 go_wp2_with (first|((with_reducible refine cj (N:=1) rfl ?_);refine dK ?hg (N:=1) ?hd (cs:=#[.int .i64 af,.slice aq aa.length ak]) (t:=31) ?hr ?_;(case hd=>rfl);(case hg=>rfl);(case hr=>first|(go_simp;done)|(go_simp;rfl));intro ai hg w2 aJ hb;have ag:=k0 (aJ);have b8:=k0 ((by rw [hg];exact (alk bl):w.heap.size≤ai));have eB:=b8;replace HB:=k0 (aI bl hb);clear hb aJ hg)|((with_reducible refine cj (N:=5) rfl ?_);refine Kd.al2 (Kd.int .i64) _ 2 ?hg (N:=5) ?hd (xs:=([]:List Int)) (inner:=[]) (ok:=fun _=>True) (b9:=fun _=>True) ?hr ?hp (fun _ hk=>hk) trivial (Below.refl _ _) (Nat.le_refl _) (by simp) ?_;(case hd=>rfl);(case hg=>rfl);(case hr=>first|(go_simp;done)|(go_simp;rfl));(case hp=>exact (bW.none _ _));intro dn w3 eu hb dF dG;clear dF dG;(first|rw [← gz.out] at eu|(simp only [Int.reduceToNat] at eu;rw [← gz.out] at eu));have bq:=k0 (Kd.dI eu (alk bl));replace ag:=k0 (alm (g:=ai) (o:=sO af aq aa ak 31) bk hb);replace HB:=k0 (aI bl hb);clear hb eu;have sU:w3.cell? ⟨ai,0,none⟩=some (.int .i64 af):=(av ag.out 0).trans rfl;have sV:w3.cell? ⟨ai,1,none⟩=some (.slice aq aa.length ak):=(av ag.out 1).trans rfl;have sX:=aD ag.out 0;have sY:=aD ag.out 1))
 go_loopg [3,8] k (fun kq v3 v8 w'=>∃ (bC:List Int) (bg:Int),v8=.int .i64 bg∧au (alQ.l0 kq bC af bg=some r)∧au (kq≤k)∧au (Kd.R (Kd.int .i64) 2 w' w.heap.size (fun _=>True) v3 bC)∧au (w'.heap[ai]?=some (sO af aq aa ak 31))∧au (Below w.heap.size w w'))
 case atStart=>exact ⟨(alD),(0),rs,H',⟨Nat.le_refl _⟩,⟨aR (bq.out)⟩,⟨bk⟩,⟨bl⟩⟩
 case round =>
  clear H'
  (try clear sU);(try clear sV);(try clear sX);(try clear sY)
  obtain ⟨bC,bg,rfl,HA,alj,ald,ag,HB⟩:=hrel
  cases gk with
  | zero=>exact absurd HA.out (by simp [alQ.l0])
  | succ k1 =>
   have H:=HA.out
   clear HA
   simp only [alQ.l0] at H
   by_cases c6:bg < af
   case neg =>
    rw [if_neg c6] at H
    have gB:decide (bg < af)=false:=decide_eq_false c6
    clear c6
    obtain rfl:=Option.some.inj H
    go_wp2
    go_ret
    exact ⟨_,by first|rfl|(simp [bz,bA]<;>rfl)|(simp [*,bz,bA]<;>rfl),by (with_reducible repeat (first|apply Kd.bH|apply Kd.bL|apply Kd.bn));exact ald.out,bl⟩
   rw [if_pos c6] at H
   have gB:=decide_eq_true c6
   clear c6
   replace H:=iS H;obtain ⟨c7,H⟩:=H
   have yc:=k0 c7
   clear c7
   obtain ⟨jb,fy⟩:∃ y_:List Int,y_=(bC ++ [bg]):=⟨_,rfl⟩
   replace H:(alQ.l0 k1 jb af (wrap64 (bg+1)))=some r:=by first|(rw [fy];with_reducible exact H)|(have ax:=(Option.bind_some _ _).symm.trans H;rw [fy];with_reducible exact ax)|(have ax:=(Option.bind_some _ _).symm.trans H;with_reducible exact ax)|with_reducible exact H|(rw [fy];exact H)|exact H
   have lY:=k0 fy
   clear fy
   have H':=k0 H
   clear H
   go_wp2_with (first|((with_reducible refine ot (b:=.append) (xs:=#[.tmp 11,.tmp 13]) rfl ?_);at_builtin;refine Kd.sB (Kd.int .i64) (w0:=w) w.heap.size rfl (.tmp 11) (.tmp 13) 28 2 (.int .i64 0) 8 rfl Try.underlying28 alU rfl (by decide) (by omega) u3 bC bg [.int .i64 bg] (fun _=>True) (fun _=>False) rfl rfl ?aP (fun _ hk=>hk.elim) ?aF ?aO ?aB ?aS ?aL ?_;(case aP=>exact rfl);(case aB=>exact bl);(case aF=>exact (fun _ _=>trivial));(case aO=>exact (aR ald.out));(case aS=>exact (alk bl));(case aL=>have:=yc.out;omega);intro fY w8 ho hb hg bX;rw [← lY.out] at ho;have aE:=k0 (iQ (g:=ai) (o:=sO af aq aa ak 31) bk hg (Kd.gY ald.out ag.out (by decide)));have aH:=k0 (hb);have aK:=k0 (ho);clear ag;clear HB;clear ald;have ag:=aE;have HB:=aH;have cO:=aK;clear aE aH aK;clear ho hb hg bX))
   go_roundg k1
   case measure=>have:=alj.out;omega
   case rel=>exact ⟨(jb),(wrap64 (bg+1)),rs,H',⟨by have:=alj.out;omega⟩,⟨aR (cO.out)⟩,⟨bk⟩,⟨bl⟩⟩
/-! ### F151: function 151 -/
theorem OS (w:World) (a:Option Addr) (n c:Nat):(binOp .eql 28 (.slice a n c) (.slice none 0 0)).run Try.prog w=.ok (.bool a.isNone) w:=Lib.run_eql_slice_nil w _ _ a n c 0 0 Try.underlying28
def kr.f (l0:List Int):Option (List Int):=if l0.length < 17592186044416 then some l0 else none
set_option maxHeartbeats 8000000 in
set_option maxRecDepth 100000 in
theorem kr.calls (A0 : Option Addr) (c0 : Nat) (l0 : List Int) (r : List Int) (w : World) (cS : Kd.C (Kd.int .i64) w A0 l0.length l0) (hc0 : l0.length ≤ c0) (h : kr.f l0 = some r) :
  Calls Try.prog 151 #[.slice A0 l0.length c0] w fun e w'=>∃ dH:Value,e=.returned (dH)∧Kd.R (Kd.int .i64) 2 w' w.heap.size (fun _=>True) dH r∧Below w.heap.size w w':=by
 have fe:=k0 cS
 have alR:=k0 hc0
 clear cS hc0
 unfold kr.f at h
 by_cases c2:l0.length < 17592186044416
 case neg =>
  rw [if_neg c2] at h
  exact absurd h (by simp)
 rw [if_pos c2] at h
 obtain rfl:=Option.some.inj h
 clear h
 cases A0 with
 | none =>
  have hn:l0=[]:=by
   by_cases hz:l0.length=0
   case neg =>
    obtain ⟨ad,e,_⟩:=Kd.bJ fe.out 0 (by omega) (by omega)
    cases e
   exact List.eq_nil_of_length_eq_zero hz
  subst hn
  have q_:=OS
  go_enter Try.func151,Try.ntmps151
  go_wp2
  go_ret
  exact ⟨_,rfl,Kd.Ae _ _ _ _ _,Below.refl _ _⟩
 | some ad =>
  have HB:=k0 (Below.refl w.heap.size w)
  have IF:=k0 c2
  clear c2
  have q_:=OS
  go_enter Try.func151,Try.ntmps151
  go_wp2_with (first|((with_reducible refine cj (N:=5) rfl ?_);refine Kd.al2 (Kd.int .i64) _ 2 ?hg (N:=5) ?hd (xs:=([]:List Int)) (inner:=[]) (ok:=fun _=>True) (b9:=fun _=>True) ?hr ?hp (fun _ hk=>hk) trivial (Below.refl _ _) (Nat.le_refl _) (by simp) ?_;(case hd=>rfl);(case hg=>rfl);(case hr=>first|(go_simp;done)|(go_simp;rfl));(case hp=>exact (bW.none _ _));intro mg w3 eu hb dF dG;clear dF dG;have kU:=k0 (Kd.dI eu (alk bl));replace HB:=k0 (aI bl hb);clear hb eu)|((with_reducible refine ot (b:=.append) (xs:=#[.tmp 5,.tmp 6]) rfl ?_);at_builtin;refine Kd.IY (Kd.int .i64) (w0:=w) w.heap.size rfl (.tmp 5) (.tmp 6) 28 2 (.int .i64 0) 8 rfl Try.underlying28 alU rfl (by decide) (by omega) mg ([]:List Int) l0 _ _ _ (fun _=>True) (fun _=>False) rfl rfl ?aO ?aR (fun _ _ h=>h) (fun _ h=>h.elim) ?aF ?aB ?aS ?aL ?_;(case aR=>repeat (first|exact (Kd.bK fe.out HB.out)|(with_reducible refine Kd.kQ ?_ _)|(with_reducible refine Kd.alZ ?_ _)|(with_reducible refine Kd.jZ ?_)));(case aB=>exact bl);(case aF=>exact (fun _ _=>trivial));(case aO=>exact (aR kU.out));(case aS=>exact (alk bl));(case aL=>have:=IF.out;simp;omega);intro v105 w5 ho hb hg bX;rw [List.nil_append] at ho;have aE:=k0 (hb);have aH:=k0 (ho);clear HB;clear kU;have HB:=aE;have iO:=aH;clear aE aH;clear ho hb hg bX))
  go_ret
  exact ⟨_,by first|rfl|(simp;done),by (with_reducible repeat (first|apply Kd.bH|apply Kd.bL|apply Kd.bn));exact iO.out,bl⟩
/-! ### F204: function 204 -/
def ia.l0 : Nat → Int → List (List Int) → Int → Int → Option ((List (List Int)))
 | 0,_,_,_,_=>none
 | k+1,x0,x3,x5,x6=>if x6 < x5 then (if 0≤x0 then (if (x0:Int).toNat≤35184372088832 then (if x3.length < 5864062014805 then (ia.l0 k x0 (x3 ++ [(List.replicate (x0:Int).toNat 0)]) x5 (wrap64 (x6+1))) else (none)) else (none)) else (none)) else (some x3)
def ia.f (k:Nat) (a0:Int):Option ((List (List Int))):=ia.l0 k a0 (([]:List (List Int))) a0 0
theorem ia.bU : ∀ k, (∀ y0 y1 y2 y3, aj (ia.l0 k y0 y1 y2 y3) (ia.l0 (k + 1) y0 y1 y2 y3))
 | 0=>fun _ _ _ _ r h=>by simp [ia.l0] at h
 | k+1=>by
  have alg:=ia.bU k
  ·intro y0 y1 y2 y3
   unfold ia.l0
   repeat' first
    | (with_reducible first|exact alg _ _ _ _|exact aj.refl _|exact aj.none _|refine aj.ite ?_ ?_|refine aj.bind ?_ (fun _=>?_))
    | exact alg _ _ _ _|exact aj.none _|refine aj.ite ?_ ?_|refine aj.bind ?_ (fun _=>?_)
theorem ia.mono:∀ a0 k,aj (ia.f k a0) (ia.f (k+1) a0):=by
 intro a0 k
 have alg:=ia.bU k
 unfold ia.f
 repeat' first
  | (with_reducible first|exact alg _ _ _ _|exact aj.refl _|exact aj.none _|refine aj.ite ?_ ?_|refine aj.bind ?_ (fun _=>?_))
  | exact alg _ _ _ _|exact aj.none _|refine aj.ite ?_ ?_|refine aj.bind ?_ (fun _=>?_)
set_option maxHeartbeats 8000000 in
set_option maxRecDepth 100000 in
theorem ia.calls (k : Nat) (a0 : Int) (r : List (List Int)) (w : World) (h : ia.f k a0 = some r) :
  Calls Try.prog 204 #[.int .i64 a0] w fun e w'=>∃ dH:Value,e=.returned (dH)∧Kd.S (Kd.slice 2 (Kd.int .i64)) 28 w' w.heap.size (fun _=>True) dH r∧Below w.heap.size w w':=by
 have HB:=k0 (Below.refl w.heap.size w)
 have H:(ia.l0 k a0 (([]:List (List Int))) a0 0)=some r:=h
 clear h
 obtain ⟨jx,gf⟩:∃ y_:List (List Int),y_=(([]:List (List Int))):=⟨_,rfl⟩
 replace H:(ia.l0 k a0 jx a0 0)=some r:=by first|(rw [gf];with_reducible exact H)|(have ax:=(Option.bind_some _ _).symm.trans H;rw [gf];with_reducible exact ax)|(have ax:=(Option.bind_some _ _).symm.trans H;with_reducible exact ax)|with_reducible exact H|(rw [gf];exact H)|exact H
 have mq:=k0 gf
 clear gf
 have H':=k0 H
 clear H
 go_enter Try.func204,Try.ntmps204
 go_wp2_with (first|((with_reducible refine cj (N:=4) rfl ?_);refine Kd.Ca (Kd.slice 2 (Kd.int .i64)) _ 28 ?hg (N:=4) ?hd (xs:=([]:List (List Int))) (inner:=[]) (ok:=fun _=>True) (b9:=fun _=>True) ?hr ?hp (fun _ hk=>hk) trivial (Below.refl _ _) (Nat.le_refl _) (by simp) ?_;(case hd=>rfl);(case hg=>rfl);(case hr=>first|(go_simp;done)|(go_simp;rfl));(case hp=>exact (bW.none _ _));intro mg w2 th hb dF dG;clear dF dG;(first|rw [← mq.out] at th|(simp only [Int.reduceToNat] at th;rw [← mq.out] at th));have kU:=k0 (Kd.oR th (alk bl));replace HB:=k0 (aI bl hb);clear hb th))
 go_loopg [3,6] k (fun kq v3 v6 w'=>∃ (bC:List (List Int)) (fS:Int),v6=.int .i64 fS∧au (ia.l0 kq a0 bC a0 fS=some r)∧au (kq≤k)∧au (Kd.S (Kd.slice 2 (Kd.int .i64)) 28 w' w.heap.size (fun _=>True) v3 bC)∧au (Below w.heap.size w w'))
 case atStart=>exact ⟨(jx),(0),rs,H',⟨Nat.le_refl _⟩,⟨aS (kU.out)⟩,⟨bl⟩⟩
 case round =>
  clear H'
  obtain ⟨bC,fS,rfl,HA,alj,ald,HB⟩:=hrel
  cases gk with
  | zero=>exact absurd HA.out (by simp [ia.l0])
  | succ k1 =>
   have H:=HA.out
   clear HA
   simp only [ia.l0] at H
   by_cases c4:fS < a0
   case neg =>
    rw [if_neg c4] at H
    have eD:decide (fS < a0)=false:=decide_eq_false c4
    clear c4
    obtain rfl:=Option.some.inj H
    go_wp2
    go_ret
    exact ⟨_,by first|rfl|(simp [bz,bA]<;>rfl)|(simp [*,bz,bA]<;>rfl),by (with_reducible repeat (first|apply Kd.gK|apply Kd.alH|apply Kd.eW));exact ald.out,bl⟩
   rw [if_pos c4] at H
   have eD:=decide_eq_true c4
   clear c4
   replace H:=iS H;obtain ⟨c5,H⟩:=H
   have alS:=eq_true c5
   have Jh:=decide_eq_true c5
   clear c5
   replace H:=iS H;obtain ⟨c6,H⟩:=H
   have gB:=eq_true c6
   have wY:=decide_eq_true c6
   clear c6
   obtain ⟨nW,jo⟩:∃ y_:List Int,y_=(List.replicate (a0:Int).toNat 0):=⟨_,rfl⟩
   replace H:(if bC.length < 5864062014805 then (ia.l0 k1 a0 (bC ++ [nW]) a0 (wrap64 (fS+1))) else (none))=some r:=by first|(rw [jo];with_reducible exact H)|(have ax:=(Option.bind_some _ _).symm.trans H;rw [jo];with_reducible exact ax)|(have ax:=(Option.bind_some _ _).symm.trans H;with_reducible exact ax)|with_reducible exact H|(rw [jo];exact H)|exact H
   have uj:=k0 jo
   clear jo
   replace H:=iS H;obtain ⟨c7,H⟩:=H
   have yc:=k0 c7
   clear c7
   obtain ⟨TM,DT⟩:∃ y_:List (List Int),y_=(bC ++ [nW]):=⟨_,rfl⟩
   replace H:(ia.l0 k1 a0 TM a0 (wrap64 (fS+1)))=some r:=by first|(rw [DT];with_reducible exact H)|(have ax:=(Option.bind_some _ _).symm.trans H;rw [DT];with_reducible exact ax)|(have ax:=(Option.bind_some _ _).symm.trans H;with_reducible exact ax)|with_reducible exact H|(rw [DT];exact H)|exact H
   have V1:=k0 DT
   clear DT
   have H':=k0 H
   clear H
   go_wp2_with (first|((with_reducible refine cj (N:=10) rfl ?_);refine Kd.yg (Kd.int .i64) _ 2 rfl (N:=10) rfl 28 _ _ rfl a0 rfl rfl Try.underlying28 (.int .i64 0) 8 alU rfl (by decide) (by omega) 0 (ok:=fun _=>True) (b9:=fun _=>True) rfl (fun _ hk=>hk) trivial oD (Nat.le_trans (Nat.mul_le_mul_right _ (oD:a0.toNat≤35184372088832)) (by omega)) (Below.refl _ _) (Nat.le_refl _) ?_;intro v105 w8 ri hb dF dG;clear dF dG;(first|rw [← uj.out] at ri|(simp only [Int.reduceToNat] at ri;rw [← uj.out] at ri));replace ald:=k0 (Kd.kE (aS ald.out) (Kd.cn ri) hb);have iO:=k0 (Kd.dI ri (alk bl));replace HB:=k0 (aI bl hb);clear hb ri;obtain ⟨zP,am8,Cx⟩:=Kd.eF iO.out;subst Cx)|((with_reducible refine ot (b:=.append) (xs:=#[.tmp 8,.tmp 11]) rfl ?_);at_builtin;refine Kd.ans (Kd.slice 2 (Kd.int .i64)) (w0:=w) w.heap.size rfl (.tmp 8) (.tmp 11) 22 28 (.slice none 0 0) 24 rfl Try.underlying22 xI rfl (by decide) (by omega) u3 bC nW [.slice zP nW.length am8] (fun _=>True) (fun k_=>some k_=(.slice zP nW.length am8:Value).ownBlock) rfl rfl ?aP (fun k_ j7=>((Kd.alq (ok':=fun k_=>((fun _=>True)) k_∧some k_ ≠ (u3:Value).ownBlock) (Kd.mV (iO.out) (Kd.lq ald.out) (by decide)) (fun k_ hk=>⟨trivial,hk.2⟩))).1 k_ j7.symm) ?aF ?aO ?aB ?aS ?aL ?_;(case aP=>exact Kd.rJ (Kd.alq (Kd.vq rfl (Kd.alq (ok':=fun k_=>((fun _=>True)) k_∧some k_ ≠ (u3:Value).ownBlock) (Kd.mV (iO.out) (Kd.lq ald.out) (by decide)) (fun k_ hk=>⟨trivial,hk.2⟩))) (fun _ h_=>h_)));(case aB=>exact bl);(case aF=>exact (fun _ _=>trivial));(case aO=>exact (by (with_reducible repeat (first|apply Kd.gK|apply Kd.alH|apply Kd.eW));exact Kd.iF ald.out (fun k_ hk=>⟨trivial,fun e_=>hk.2 e_⟩)));(case aS=>exact (alk bl));(case aL=>have:=yc.out;omega);intro Me gw ho hb hg bX;rw [← V1.out] at ho;have aE:=k0 (hb);have aH:=k0 (ho);clear HB;clear ald;clear iO;have HB:=aE;have fL:=aH;clear aE aH;clear ho hb hg bX))
   go_roundg k1
   case measure=>have:=alj.out;omega
   case rel=>exact ⟨(TM),(wrap64 (fS+1)),rs,H',⟨by have:=alj.out;omega⟩,⟨aS (fL.out)⟩,⟨bl⟩⟩
end Go.Proofs.Ytoebojnhchocaaa.D
/- Set with little white space, by a program. -/
