/- The functions that one law reaches, each as a Lean function, and that Go's call comes to what it says. Condition of each: that the Lean function answers (is not none). -/
import Derived.Test.YtoebojnhchocaaaEx0
import Derived.Test.YtoebojnhchocaaaEx1
namespace Go.Proofs.Ytoebojnhchocaaa.E
open Go.RowKit Go.Proofs.bY.apf Go.Proofs.bY.ko Go.Proofs.bY.kN
attribute [local go_sem] max2_int min2_int max_two min_two max_three min_three max_four min_four   -- for this text's walks alone
set_option linter.unusedVariables false
set_option linter.unusedSimpArgs false
/-! ### F161: function 161 -/
def lB.f (k:Nat) (ah:Int) (af:List (List Int)) (bM:Int) (bL:List (List Int)):Option (Bool):=(jG.f k ah af).bind fun t102=>(if t102=true then ((ir.f bM 1 4).bind fun t103=>(if t103=true then ((jU.f ah af).bind fun t104=>(if (bL.length:Int)=t104 then ((rQ.f k bL ah af bM bL).bind fun t105=>(some (!t105))) else (some false))) else (some false))) else (some false))
def lB.T1:Bool × List (List Nat × List Nat):=(true,[([],[]),([0],[0]),([1],[1]),([2],[2]),([3,2],[3]),([4],[4]),([5,4],[4,5]),([6,4,4],[4,6]),([7,4],[4,7]),([4,8],[4,8]),([9,7],[9]),([10],[10]),([11,10],[10,11]),([12,10],[10,12]),([10],[10]),([14,10],[10,14]),([15,10,10],[10,15]),([13,16,10],[10,13,16]),([10,17],[10,17])])
def lB.B1:List Nat:=[0,1,3,7,15,31,63,127,255,511,1023,2047,4095,8191,2047,18431,51199,131071,262143]
theorem lB.Ie:iP .any (opsOf Try.f161 1)=lB.T1:=by kernel_rfl
theorem lB.Gc:nA lB.T1.2 lB.B1=true:=by kernel_rfl
set_option maxHeartbeats 8000000 in
set_option maxRecDepth 100000 in
theorem lB.calls (k : Nat) (ah : Int) (aT : Option Addr) (aoW : Nat) (af : List (List Int)) (bM : Int) (fV : Option Addr) (fT : Nat) (bL : List (List Int)) (r : Bool) (w : World) (cR : Kd.C (Kd.slice 2 (Kd.int .i64)) w aT af.length af) (cX : af.length ≤ aoW) (apV : Kd.C (Kd.slice 2 (Kd.int .i64)) w fV bL.length bL) (rB : bL.length ≤ fT) (h : lB.f k ah af bM bL = some r) :
  Calls Try.prog 161 #[.agg #[.int .i64 ah,.slice aT af.length aoW,.int .i64 bM,.slice fV bL.length fT]] w fun e w'=>e=.returned (.bool r)∧Below w.heap.size w w':=by
 have wo:=Try.underlying33
 have iX:=Try.underlying31
 have ao6:=k0 cR
 have cV:=k0 cX
 clear cR cX
 have pq:=k0 apV
 have apJ:=k0 rB
 clear apV rB
 have HB:=k0 (Below.refl w.heap.size w)
 have H:((jG.f k ah af).bind fun t102=>(if t102=true then ((ir.f bM 1 4).bind fun t103=>(if t103=true then ((jU.f ah af).bind fun t104=>(if (bL.length:Int)=t104 then ((rQ.f k bL ah af bM bL).bind fun t105=>(some (!t105))) else (some false))) else (some false))) else (some false)))=some r:=h
 clear h
 replace H:=Option.bind_eq_some_iff.mp H
 obtain ⟨t102,fI,H⟩:=H
 replace H:(if t102=true then ((ir.f bM 1 4).bind fun t103=>(if t103=true then ((jU.f ah af).bind fun t104=>(if (bL.length:Int)=t104 then ((rQ.f k bL ah af bM bL).bind fun t105=>(some (!t105))) else (some false))) else (some false))) else (some false))=some r:=H
 have A2:=k0 fI
 clear fI
 by_cases c3:t102=true
 case neg =>
  replace c3:=Bool.eq_false_iff.mpr c3
  subst c3
  have H1:(some false)=some r:=by rw [if_neg (show ¬ (false=true) by decide)] at H;exact H
  clear H
  have H:=H1
  clear H1
  obtain rfl:=Option.some.inj H
  go_enter Try.func161,Try.ntmps161
  try go_wp2_with (first|((with_reducible refine bp (N:=1) rfl ?_);(try (refine jC (by rfl) ?_;dsimp only));refine bR 1 #[.int .i64 ah,.slice aT af.length aoW,.int .i64 bM,.slice fV bL.length fT] 33 ?_;intro aoV hg tM aE hb;have aa:=k0 (aE);have bB:=gW hg (aoS bl);have aX:=bB;replace HB:=k0 (aH bl hb);clear hb aE hg))
  replace aa:=k0 (aJ aa.z);replace HB:=k0 (aZ HB.z)
  refine apA (n:=19) (S:=fun w'=>w'.cell? ⟨aoV,0,none⟩=some (.int .i64 ah)∧w'.cell? ⟨aoV,1,none⟩=some (.slice aT af.length aoW)∧w'.cell? ⟨aoV,2,none⟩=some (.int .i64 bM)∧w'.cell? ⟨aoV,3,none⟩=some (.slice fV bL.length fT)) (ds:=[]) (ba 19 0) (by kernel_rfl) rfl rfl ⟨aQ aa,aoT aa,ao_ aa,ec aa⟩ (fun hHeld=>?_);refine nB lB.Ie lB.Gc (fun az dA=>?_)
  generalize tM.drew=CO at aa HB hHeld ⊢
  refine pu 0 (some 3) (ba 19 1) az (h:=?_)
  refine ta 1 (some 4) (ba 19 3) az dA hHeld (hy:=Or.inl ⟨by rfl,by rintro w' ⟨s0,s1,s2,s3⟩;go_simp;with_reducible rfl⟩) (h:=?_)
  refine ja (i:=2) (N:=some 5) (ba 19 7) rfl rfl (hO az.out (by kernel_rfl)) (by decide) (fun K hK=>?_)
  refine mP Try.func106 (by kernel_rfl) rfl #[.agg #[.int .i64 ah,.slice aT af.length aoW]] (by rfl) rfl rfl gm ?_
  with_reducible refine (jG.calls k ah _ _ af false _ ?aoN ?aoP A2.z).mono ?_
  (case aoN=>exact aC (Kd.ao4 ao6.z HB.z))
  (case aoP=>exact cV.z)
  rintro e Fs ⟨rfl,hb⟩
  refine ⟨_,rfl,?_⟩
  replace aa:=kB aa hb;replace HB:=k0 (aH bl hb)
  refine hK.out _ _ ⟨aQ aa,aoT aa,ao_ aa,ec aa⟩ (fun hHeld=>?_)
  clear hK K
  refine jh (a':=?_) ?_ ?_
  rotate_left;· show Act.put _ (some 5) _=_;simp only [Act.put,zI,zZ,zS,cm,cO];rfl
  refine pu 3 (some 6) (ba 19 15) az (h:=?_)
  refine pu 4 (some 7) (ba 19 31) az (h:=?_)
  refine kT (i:=5) (N:=some 8) (v:=undef) (a':=?_) (ba 19 63) rfl rfl (apF az.out (by kernel_rfl)) (fun _ _ _ h=>h) (Or.inr ⟨by rfl,rfl⟩) ?_ ?_
  rotate_left;· simp only [Act.put,zI,zZ,zS,cm,cO];rfl
  refine kT (i:=6) (N:=some 9) (v:=undef) (a':=?_) (ba 19 127) rfl rfl (apF az.out (by kernel_rfl)) (fun _ _ _ h=>h) (Or.inr ⟨by rfl,rfl⟩) ?_ ?_
  rotate_left;· simp only [Act.put,zI,zZ,zS,cm,cO];rfl
  refine kT (i:=7) (N:=some 10) (v:=undef) (a':=?_) (ba 19 255) rfl rfl (apF az.out (by kernel_rfl)) (fun _ _ _ h=>h) (Or.inr ⟨by rfl,rfl⟩) ?_ ?_
  rotate_left;· simp only [Act.put,zI,zZ,zS,cm,cO];rfl
  refine kT (i:=8) (N:=some 11) (v:=undef) (a':=?_) (ba 19 511) rfl rfl (apF az.out (by kernel_rfl)) (fun _ _ _ h=>h) (Or.inr ⟨by rfl,rfl⟩) ?_ ?_
  rotate_left;· simp only [Act.put,zI,zZ,zS,cm,cO];rfl
  refine pu 9 (some 12) (ba 19 1023) az (h:=?_)
  refine pu 10 (some 13) (ba 19 2047) az (h:=?_)
  refine kT (i:=11) (N:=some 14) (v:=undef) (a':=?_) (ba 19 4095) rfl rfl (apF az.out (by kernel_rfl)) (fun _ _ _ h=>h) (Or.inr ⟨by rfl,rfl⟩) ?_ ?_
  rotate_left;· simp only [Act.put,zI,zZ,zS,cm,cO];rfl
  refine kT (i:=12) (N:=some 15) (v:=undef) (a':=?_) (ba 19 8191) rfl rfl (apF az.out (by kernel_rfl)) (fun _ _ _ h=>h) (Or.inr ⟨by rfl,rfl⟩) ?_ ?_
  rotate_left;· simp only [Act.put,zI,zZ,zS,cm,cO];rfl
  refine kT (i:=13) (N:=some 16) (v:=undef) (a':=?_) (ba 19 16383) rfl rfl (apF az.out (by kernel_rfl)) (fun _ _ _ h=>h) (Or.inr ⟨by rfl,rfl⟩) ?_ ?_
  rotate_left;· simp only [Act.put,zI,zZ,zS,cm,cO];rfl
  refine kT (i:=14) (N:=some 17) (v:=undef) (a':=?_) (ba 19 32767) rfl rfl (apF az.out (by kernel_rfl)) (fun _ _ _ h=>h) (Or.inr ⟨by rfl,rfl⟩) ?_ ?_
  rotate_left;· simp only [Act.put,zI,zZ,zS,cm,cO];rfl
  refine kT (i:=15) (N:=some 18) (v:=undef) (a':=?_) (ba 19 65535) rfl rfl (apF az.out (by kernel_rfl)) (fun _ _ _ h=>h) (Or.inr ⟨by rfl,rfl⟩) ?_ ?_
  rotate_left;· simp only [Act.put,zI,zZ,zS,cm,cO];rfl
  refine kT (i:=16) (N:=some 19) (v:=undef) (a':=?_) (ba 19 131071) rfl rfl (apF az.out (by kernel_rfl)) (fun _ _ _ h=>h) (Or.inr ⟨by rfl,rfl⟩) ?_ ?_
  rotate_left;· simp only [Act.put,zI,zZ,zS,cm,cO];rfl
  refine kT (i:=17) (N:=some 20) (v:=undef) (a':=?_) (ba 19 262143) rfl rfl (apF az.out (by kernel_rfl)) (fun _ _ _ h=>h) (Or.inr ⟨by rfl,rfl⟩) ?_ ?_
  rotate_left;· simp only [Act.put,zI,zZ,zS,cm,cO];rfl
  refine pu 18 (some 21) (ba 19 524287) az (h:=?_)
  refine lY (nj az.out (by kernel_rfl)) ?_
  try go_wp2
  go_ret
  exact ⟨eR,bl⟩
 subst c3
 have H1:((ir.f bM 1 4).bind fun t103=>(if t103=true then ((jU.f ah af).bind fun t104=>(if (bL.length:Int)=t104 then ((rQ.f k bL ah af bM bL).bind fun t105=>(some (!t105))) else (some false))) else (some false)))=some r:=by rw [if_pos rfl] at H;exact H
 clear H
 have H:=H1
 clear H1
 replace H:=Option.bind_eq_some_iff.mp H
 obtain ⟨t103,fu,H⟩:=H
 replace H:(if t103=true then ((jU.f ah af).bind fun t104=>(if (bL.length:Int)=t104 then ((rQ.f k bL ah af bM bL).bind fun t105=>(some (!t105))) else (some false))) else (some false))=some r:=H
 have A4:=k0 fu
 clear fu
 by_cases c5:t103=true
 case neg =>
  replace c5:=Bool.eq_false_iff.mpr c5
  subst c5
  have H1:(some false)=some r:=by rw [if_neg (show ¬ (false=true) by decide)] at H;exact H
  clear H
  have H:=H1
  clear H1
  obtain rfl:=Option.some.inj H
  go_enter Try.func161,Try.ntmps161
  try go_wp2_with (first|((with_reducible refine bp (N:=1) rfl ?_);(try (refine jC (by rfl) ?_;dsimp only));refine bR 1 #[.int .i64 ah,.slice aT af.length aoW,.int .i64 bM,.slice fV bL.length fT] 33 ?_;intro aoV hg CM aE hb;have aa:=k0 (aE);have bB:=gW hg (aoS bl);have aX:=bB;replace HB:=k0 (aH bl hb);clear hb aE hg))
  replace aa:=k0 (aJ aa.z);replace HB:=k0 (aZ HB.z)
  refine apA (n:=19) (S:=fun w'=>w'.cell? ⟨aoV,0,none⟩=some (.int .i64 ah)∧w'.cell? ⟨aoV,1,none⟩=some (.slice aT af.length aoW)∧w'.cell? ⟨aoV,2,none⟩=some (.int .i64 bM)∧w'.cell? ⟨aoV,3,none⟩=some (.slice fV bL.length fT)) (ds:=[]) (ba 19 0) (by kernel_rfl) rfl rfl ⟨aQ aa,aoT aa,ao_ aa,ec aa⟩ (fun hHeld=>?_);refine nB lB.Ie lB.Gc (fun az dA=>?_)
  generalize CM.drew=aqf at aa HB hHeld ⊢
  refine pu 0 (some 3) (ba 19 1) az (h:=?_)
  refine ta 1 (some 4) (ba 19 3) az dA hHeld (hy:=Or.inl ⟨by rfl,by rintro w' ⟨s0,s1,s2,s3⟩;go_simp;with_reducible rfl⟩) (h:=?_)
  refine ja (i:=2) (N:=some 5) (ba 19 7) rfl rfl (hO az.out (by kernel_rfl)) (by decide) (fun K hK=>?_)
  refine mP Try.func106 (by kernel_rfl) rfl #[.agg #[.int .i64 ah,.slice aT af.length aoW]] (by rfl) rfl rfl gm ?_
  with_reducible refine (jG.calls k ah _ _ af true _ ?aoN ?aoP A2.z).mono ?_
  (case aoN=>exact aC (Kd.ao4 ao6.z HB.z))
  (case aoP=>exact cV.z)
  rintro e CN ⟨rfl,hb⟩
  refine ⟨_,rfl,?_⟩
  replace aa:=kB aa hb;replace HB:=k0 (aH bl hb)
  refine hK.out _ _ ⟨aQ aa,aoT aa,ao_ aa,ec aa⟩ (fun hHeld=>?_)
  clear hK K
  refine jh (a':=?_) ?_ ?_
  rotate_left;· show Act.put _ (some 5) _=_;simp only [Act.put,zI,zZ,zS,cm,cO];rfl
  refine pu 3 (some 6) (ba 19 15) az (h:=?_)
  refine pu 4 (some 7) (ba 19 31) az (h:=?_)
  refine pu 5 (some 8) (ba 19 63) az (h:=?_)
  refine ta 6 (some 9) (ba 19 127) az dA hHeld (hy:=Or.inl ⟨by rfl,by rintro w' ⟨s0,s1,s2,s3⟩;go_simp;with_reducible rfl⟩) (h:=?_)
  refine ja (i:=7) (N:=some 10) (ba 19 255) rfl rfl (hO az.out (by kernel_rfl)) (by decide) (fun K hK=>?_)
  refine mP Try.func194 (by kernel_rfl) rfl #[.int .i64 bM,.int .i64 1,.int .i64 4] (by rfl) rfl rfl gm ?_
  with_reducible refine (ir.calls bM 1 4 false _ A4.z).mono ?_
  rintro e w' ⟨rfl,⟨nd,rfl⟩⟩
  refine ⟨_,rfl,?_⟩
  refine hK.out _ _ ⟨aQ aa,aoT aa,ao_ aa,ec aa⟩ (fun hHeld=>?_)
  clear hK K
  refine jh (a':=?_) ?_ ?_
  rotate_left;· show Act.put _ (some 10) _=_;simp only [Act.put,zI,zZ,zS,cm,cO];rfl
  refine pu 8 (some 11) (ba 19 511) az (h:=?_)
  refine pu 9 (some 12) (ba 19 1023) az (h:=?_)
  refine pu 10 (some 13) (ba 19 2047) az (h:=?_)
  refine kT (i:=11) (N:=some 14) (v:=undef) (a':=?_) (ba 19 4095) rfl rfl (apF az.out (by kernel_rfl)) (fun _ _ _ h=>h) (Or.inr ⟨by rfl,rfl⟩) ?_ ?_
  rotate_left;· simp only [Act.put,zI,zZ,zS,cm,cO];rfl
  refine kT (i:=12) (N:=some 15) (v:=undef) (a':=?_) (ba 19 8191) rfl rfl (apF az.out (by kernel_rfl)) (fun _ _ _ h=>h) (Or.inr ⟨by rfl,rfl⟩) ?_ ?_
  rotate_left;· simp only [Act.put,zI,zZ,zS,cm,cO];rfl
  refine kT (i:=13) (N:=some 16) (v:=undef) (a':=?_) (ba 19 16383) rfl rfl (apF az.out (by kernel_rfl)) (fun _ _ _ h=>h) (Or.inr ⟨by rfl,rfl⟩) ?_ ?_
  rotate_left;· simp only [Act.put,zI,zZ,zS,cm,cO];rfl
  refine kT (i:=14) (N:=some 17) (v:=undef) (a':=?_) (ba 19 32767) rfl rfl (apF az.out (by kernel_rfl)) (fun _ _ _ h=>h) (Or.inr ⟨by rfl,rfl⟩) ?_ ?_
  rotate_left;· simp only [Act.put,zI,zZ,zS,cm,cO];rfl
  refine kT (i:=15) (N:=some 18) (v:=undef) (a':=?_) (ba 19 65535) rfl rfl (apF az.out (by kernel_rfl)) (fun _ _ _ h=>h) (Or.inr ⟨by rfl,rfl⟩) ?_ ?_
  rotate_left;· simp only [Act.put,zI,zZ,zS,cm,cO];rfl
  refine kT (i:=16) (N:=some 19) (v:=undef) (a':=?_) (ba 19 131071) rfl rfl (apF az.out (by kernel_rfl)) (fun _ _ _ h=>h) (Or.inr ⟨by rfl,rfl⟩) ?_ ?_
  rotate_left;· simp only [Act.put,zI,zZ,zS,cm,cO];rfl
  refine kT (i:=17) (N:=some 20) (v:=undef) (a':=?_) (ba 19 262143) rfl rfl (apF az.out (by kernel_rfl)) (fun _ _ _ h=>h) (Or.inr ⟨by rfl,rfl⟩) ?_ ?_
  rotate_left;· simp only [Act.put,zI,zZ,zS,cm,cO];rfl
  refine pu 18 (some 21) (ba 19 524287) az (h:=?_)
  refine lY (nj az.out (by kernel_rfl)) ?_
  try go_wp2
  go_ret
  exact ⟨eR,bl⟩
 subst c5
 have H1:((jU.f ah af).bind fun t104=>(if (bL.length:Int)=t104 then ((rQ.f k bL ah af bM bL).bind fun t105=>(some (!t105))) else (some false)))=some r:=by rw [if_pos rfl] at H;exact H
 clear H
 have H:=H1
 clear H1
 replace H:=Option.bind_eq_some_iff.mp H
 obtain ⟨t104,kX,H⟩:=H
 replace H:(if (bL.length:Int)=t104 then ((rQ.f k bL ah af bM bL).bind fun t105=>(some (!t105))) else (some false))=some r:=H
 have A6:=k0 kX
 clear kX
 by_cases c7:(bL.length:Int)=t104
 case neg =>
  rw [if_neg c7] at H
  have oO:((bL.length:Int) == t104)=false:=beq_eq_false_iff_ne.mpr c7
  have uv:((bL.length:Int) != t104)=true:=bne_iff_ne.mpr c7
  obtain rfl:=Option.some.inj H
  go_enter Try.func161,Try.ntmps161
  try go_wp2_with (first|((with_reducible refine bp (N:=1) rfl ?_);(try (refine jC (by rfl) ?_;dsimp only));refine bR 1 #[.int .i64 ah,.slice aT af.length aoW,.int .i64 bM,.slice fV bL.length fT] 33 ?_;intro aoV hg qq aE hb;have aa:=k0 (aE);have bB:=gW hg (aoS bl);have aX:=bB;replace HB:=k0 (aH bl hb);clear hb aE hg))
  replace aa:=k0 (aJ aa.z);replace HB:=k0 (aZ HB.z)
  refine apA (n:=19) (S:=fun w'=>w'.cell? ⟨aoV,0,none⟩=some (.int .i64 ah)∧w'.cell? ⟨aoV,1,none⟩=some (.slice aT af.length aoW)∧w'.cell? ⟨aoV,2,none⟩=some (.int .i64 bM)∧w'.cell? ⟨aoV,3,none⟩=some (.slice fV bL.length fT)) (ds:=[]) (ba 19 0) (by kernel_rfl) rfl rfl ⟨aQ aa,aoT aa,ao_ aa,ec aa⟩ (fun hHeld=>?_);refine nB lB.Ie lB.Gc (fun az dA=>?_)
  generalize qq.drew=xE at aa HB hHeld ⊢
  refine pu 0 (some 3) (ba 19 1) az (h:=?_)
  refine ta 1 (some 4) (ba 19 3) az dA hHeld (hy:=Or.inl ⟨by rfl,by rintro w' ⟨s0,s1,s2,s3⟩;go_simp;with_reducible rfl⟩) (h:=?_)
  refine ja (i:=2) (N:=some 5) (ba 19 7) rfl rfl (hO az.out (by kernel_rfl)) (by decide) (fun K hK=>?_)
  refine mP Try.func106 (by kernel_rfl) rfl #[.agg #[.int .i64 ah,.slice aT af.length aoW]] (by rfl) rfl rfl gm ?_
  with_reducible refine (jG.calls k ah _ _ af true _ ?aoN ?aoP A2.z).mono ?_
  (case aoN=>exact aC (Kd.ao4 ao6.z HB.z))
  (case aoP=>exact cV.z)
  rintro e xF ⟨rfl,hb⟩
  refine ⟨_,rfl,?_⟩
  replace aa:=kB aa hb;replace HB:=k0 (aH bl hb)
  refine hK.out _ _ ⟨aQ aa,aoT aa,ao_ aa,ec aa⟩ (fun hHeld=>?_)
  clear hK K
  refine jh (a':=?_) ?_ ?_
  rotate_left;· show Act.put _ (some 5) _=_;simp only [Act.put,zI,zZ,zS,cm,cO];rfl
  refine pu 3 (some 6) (ba 19 15) az (h:=?_)
  refine pu 4 (some 7) (ba 19 31) az (h:=?_)
  refine pu 5 (some 8) (ba 19 63) az (h:=?_)
  refine ta 6 (some 9) (ba 19 127) az dA hHeld (hy:=Or.inl ⟨by rfl,by rintro w' ⟨s0,s1,s2,s3⟩;go_simp;with_reducible rfl⟩) (h:=?_)
  refine ja (i:=7) (N:=some 10) (ba 19 255) rfl rfl (hO az.out (by kernel_rfl)) (by decide) (fun K hK=>?_)
  refine mP Try.func194 (by kernel_rfl) rfl #[.int .i64 bM,.int .i64 1,.int .i64 4] (by rfl) rfl rfl gm ?_
  with_reducible refine (ir.calls bM 1 4 true _ A4.z).mono ?_
  rintro e w' ⟨rfl,⟨nd,rfl⟩⟩
  refine ⟨_,rfl,?_⟩
  refine hK.out _ _ ⟨aQ aa,aoT aa,ao_ aa,ec aa⟩ (fun hHeld=>?_)
  clear hK K
  refine jh (a':=?_) ?_ ?_
  rotate_left;· show Act.put _ (some 10) _=_;simp only [Act.put,zI,zZ,zS,cm,cO];rfl
  refine pu 8 (some 11) (ba 19 511) az (h:=?_)
  refine pu 9 (some 12) (ba 19 1023) az (h:=?_)
  refine pu 10 (some 13) (ba 19 2047) az (h:=?_)
  refine pu 11 (some 14) (ba 19 4095) az (h:=?_)
  refine pu 14 (some 17) (ba 19 20479) az (h:=?_)
  refine ta 12 (some 15) (ba 19 24575) az dA hHeld (hy:=Or.inl ⟨by rfl,by rintro w' ⟨s0,s1,s2,s3⟩;go_simp;with_reducible rfl⟩) (h:=?_)
  refine pu 13 (some 16) (ba 19 32767) az (h:=?_)
  refine ta 15 (some 18) (ba 19 65535) az dA hHeld (hy:=Or.inl ⟨by rfl,by rintro w' ⟨s0,s1,s2,s3⟩;go_simp;with_reducible rfl⟩) (h:=?_)
  refine ja (i:=16) (N:=some 19) (ba 19 131071) rfl rfl (hO az.out (by kernel_rfl)) (by decide) (fun K hK=>?_)
  refine mP Try.func163 (by kernel_rfl) rfl #[.agg #[.int .i64 ah,.slice aT af.length aoW]] (by rfl) rfl rfl gm ?_
  with_reducible refine (jU.calls ah _ _ af t104 _ ?aoN ?aoP A6.z).mono ?_
  (case aoN=>exact aC (Kd.ao4 ao6.z bl))
  (case aoP=>exact cV.z)
  rintro e CL ⟨rfl,hb⟩
  refine ⟨_,rfl,?_⟩
  replace aa:=kB aa hb;replace HB:=k0 (aH bl hb)
  refine hK.out _ _ ⟨aQ aa,aoT aa,ao_ aa,ec aa⟩ (fun hHeld=>?_)
  clear hK K
  refine jh (a':=?_) ?_ ?_
  rotate_left;· show Act.put _ (some 19) _=_;simp only [Act.put,zI,zZ,zS,cm,cO];rfl
  refine pu 17 (some 20) (ba 19 262143) az (h:=?_)
  refine pu 18 (some 21) (ba 19 524287) az (h:=?_)
  refine lY (nj az.out (by kernel_rfl)) ?_
  try go_wp2
  go_ret
  exact ⟨eR,bl⟩
 rw [if_pos c7] at H
 have oO:((bL.length:Int) == t104)=true:=beq_iff_eq.mpr c7
 have uv:((bL.length:Int) != t104)=false:=bne_eq_false_iff_eq.mpr c7
 clear c7
 replace H:=Option.bind_eq_some_iff.mp H
 obtain ⟨t105,xY,H⟩:=H
 replace H:(some (!t105))=some r:=H
 have A8:=k0 xY
 clear xY
 obtain rfl:=Option.some.inj H
 go_enter Try.func161,Try.ntmps161
 try go_wp2_with (first|((with_reducible refine bp (N:=1) rfl ?_);(try (refine jC (by rfl) ?_;dsimp only));refine bR 1 #[.int .i64 ah,.slice aT af.length aoW,.int .i64 bM,.slice fV bL.length fT] 33 ?_;intro aoV hg w9 aE hb;have aa:=k0 (aE);have bB:=gW hg (aoS bl);have aX:=bB;replace HB:=k0 (aH bl hb);clear hb aE hg))
 replace aa:=k0 (aJ aa.z);replace HB:=k0 (aZ HB.z)
 refine apA (n:=19) (S:=fun w'=>w'.cell? ⟨aoV,0,none⟩=some (.int .i64 ah)∧w'.cell? ⟨aoV,1,none⟩=some (.slice aT af.length aoW)∧w'.cell? ⟨aoV,2,none⟩=some (.int .i64 bM)∧w'.cell? ⟨aoV,3,none⟩=some (.slice fV bL.length fT)) (ds:=[]) (ba 19 0) (by kernel_rfl) rfl rfl ⟨aQ aa,aoT aa,ao_ aa,ec aa⟩ (fun hHeld=>?_);refine nB lB.Ie lB.Gc (fun az dA=>?_)
 generalize w9.drew=mH at aa HB hHeld ⊢
 refine pu 0 (some 3) (ba 19 1) az (h:=?_)
 refine ta 1 (some 4) (ba 19 3) az dA hHeld (hy:=Or.inl ⟨by rfl,by rintro w' ⟨s0,s1,s2,s3⟩;go_simp;with_reducible rfl⟩) (h:=?_)
 refine ja (i:=2) (N:=some 5) (ba 19 7) rfl rfl (hO az.out (by kernel_rfl)) (by decide) (fun K hK=>?_)
 refine mP Try.func106 (by kernel_rfl) rfl #[.agg #[.int .i64 ah,.slice aT af.length aoW]] (by rfl) rfl rfl gm ?_
 with_reducible refine (jG.calls k ah _ _ af true _ ?aoN ?aoP A2.z).mono ?_
 (case aoN=>exact aC (Kd.ao4 ao6.z HB.z))
 (case aoP=>exact cV.z)
 rintro e vp ⟨rfl,hb⟩
 refine ⟨_,rfl,?_⟩
 replace aa:=kB aa hb;replace HB:=k0 (aH bl hb)
 refine hK.out _ _ ⟨aQ aa,aoT aa,ao_ aa,ec aa⟩ (fun hHeld=>?_)
 clear hK K
 refine jh (a':=?_) ?_ ?_
 rotate_left;· show Act.put _ (some 5) _=_;simp only [Act.put,zI,zZ,zS,cm,cO];rfl
 refine pu 3 (some 6) (ba 19 15) az (h:=?_)
 refine pu 4 (some 7) (ba 19 31) az (h:=?_)
 refine pu 5 (some 8) (ba 19 63) az (h:=?_)
 refine ta 6 (some 9) (ba 19 127) az dA hHeld (hy:=Or.inl ⟨by rfl,by rintro w' ⟨s0,s1,s2,s3⟩;go_simp;with_reducible rfl⟩) (h:=?_)
 refine ja (i:=7) (N:=some 10) (ba 19 255) rfl rfl (hO az.out (by kernel_rfl)) (by decide) (fun K hK=>?_)
 refine mP Try.func194 (by kernel_rfl) rfl #[.int .i64 bM,.int .i64 1,.int .i64 4] (by rfl) rfl rfl gm ?_
 with_reducible refine (ir.calls bM 1 4 true _ A4.z).mono ?_
 rintro e w' ⟨rfl,⟨nd,rfl⟩⟩
 refine ⟨_,rfl,?_⟩
 refine hK.out _ _ ⟨aQ aa,aoT aa,ao_ aa,ec aa⟩ (fun hHeld=>?_)
 clear hK K
 refine jh (a':=?_) ?_ ?_
 rotate_left;· show Act.put _ (some 10) _=_;simp only [Act.put,zI,zZ,zS,cm,cO];rfl
 refine pu 8 (some 11) (ba 19 511) az (h:=?_)
 refine pu 9 (some 12) (ba 19 1023) az (h:=?_)
 refine pu 10 (some 13) (ba 19 2047) az (h:=?_)
 refine pu 11 (some 14) (ba 19 4095) az (h:=?_)
 refine pu 14 (some 17) (ba 19 20479) az (h:=?_)
 refine ta 12 (some 15) (ba 19 24575) az dA hHeld (hy:=Or.inl ⟨by rfl,by rintro w' ⟨s0,s1,s2,s3⟩;go_simp;with_reducible rfl⟩) (h:=?_)
 refine pu 13 (some 16) (ba 19 32767) az (h:=?_)
 refine ta 15 (some 18) (ba 19 65535) az dA hHeld (hy:=Or.inl ⟨by rfl,by rintro w' ⟨s0,s1,s2,s3⟩;go_simp;with_reducible rfl⟩) (h:=?_)
 refine ja (i:=16) (N:=some 19) (ba 19 131071) rfl rfl (hO az.out (by kernel_rfl)) (by decide) (fun K hK=>?_)
 refine mP Try.func163 (by kernel_rfl) rfl #[.agg #[.int .i64 ah,.slice aT af.length aoW]] (by rfl) rfl rfl gm ?_
 with_reducible refine (jU.calls ah _ _ af t104 _ ?aoN ?aoP A6.z).mono ?_
 (case aoN=>exact aC (Kd.ao4 ao6.z bl))
 (case aoP=>exact cV.z)
 rintro e vq ⟨rfl,hb⟩
 refine ⟨_,rfl,?_⟩
 replace aa:=kB aa hb;replace HB:=k0 (aH bl hb)
 refine hK.out _ _ ⟨aQ aa,aoT aa,ao_ aa,ec aa⟩ (fun hHeld=>?_)
 clear hK K
 refine jh (a':=?_) ?_ ?_
 rotate_left;· show Act.put _ (some 19) _=_;simp only [Act.put,zI,zZ,zS,cm,cO];rfl
 refine pu 17 (some 20) (ba 19 262143) az (h:=?_)
 refine pu 18 (some 21) (ba 19 524287) az (h:=?_)
 refine lY (nj az.out (by kernel_rfl)) ?_
 have xm:=aQ aa
 have yA:=aoT aa
 have Q7:=ao_ aa
 have Q8:=ec aa
 have xo:=bF aa 0
 have yD:=bF aa 1
 have Rq:=bF aa 2
 have Rs:=bF aa 3
 try go_wp2_with (first|((with_reducible refine bg (f:=180) rfl ?_);refine gC (some 25) Try.func180 #[.slice fV bL.length fT,.func (.func 215) #[] #[.pointer (some ⟨aoV,0,none⟩)]] ?_;(with_reducible refine (rQ.calls k _ _ bL ah aT aoW af bM fV fT bL t105 _ ?aoN ?aoP ?bA ?bH ?apC ?aqc ?vk A8.z).mono ?_);(case aoN=>exact aC (Kd.ao4 pq.z HB.z));(case aoP=>exact apJ.z);(case bA=>exact aC (Kd.ao4 ao6.z HB.z));(case bH=>exact cV.z);(case apC=>exact aC (Kd.ao4 pq.z HB.z));(case aqc=>exact apJ.z);(case vk=>exact by exact bk);rintro e tL ⟨rfl,hb⟩;refine ⟨_,rfl,?_⟩;replace aa:=kB aa hb;replace HB:=k0 (aH bl hb);))
 go_ret
 exact ⟨eR,bl⟩
end Go.Proofs.Ytoebojnhchocaaa.E
/- Set with little white space, by a program. -/
