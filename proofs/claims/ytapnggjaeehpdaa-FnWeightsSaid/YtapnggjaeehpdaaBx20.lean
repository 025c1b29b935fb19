/- Go's calls come to what the Lean functions say. Condition of each: that the Lean function answers. -/
import Derived.Test.YtapnggjaeehpdaaBx0
import Derived.Test.YtapnggjaeehpdaaBx15
namespace Go.Proofs.Ytapnggjaeehpdaa.B
open Go.RowKit Go.Proofs.bz.dI Go.Proofs.bz.iY Go.Proofs.bz.jn
attribute [local go_sem] max2_int min2_int max_two min_two max_three min_three max_four min_four
set_option linter.unusedVariables false
set_option linter.unusedSimpArgs false
/-! ### F125: function 125 -/
def fI.l0 : Nat → List Int → Int → Int → List (List Int) → Option (Bool)
 | 0,_,_,_,_=>none
 | k+1,x1,x5,cn,cF=>if x5 < (x1.length:Int) then (if 0≤x5 then ((atT.f cn cF (rd x1 x5)).bind fun mF=>(if (x1.length:Int)=0 then (none) else (if 0≤(Int.tmod (wrap64 (x5+1)) (x1.length:Int)) then (if (Int.tmod (wrap64 (x5+1)) (x1.length:Int)) < (x1.length:Int) then ((atT.f cn cF (rd x1 (Int.tmod (wrap64 (x5+1)) (x1.length:Int)))).bind fun gi=>(if gi.1=mF.2 then (fI.l0 k x1 (wrap64 (x5+1)) cn cF) else (some false))) else (none)) else (none)))) else (none)) else (some (decide ((x1.length:Int) > 0)))
def fI.f (k:Nat) (as0:Int) (ak:List (List Int)) (l1:List Int):Option (Bool):=fI.l0 k l1 0 as0 ak
def fI.T4:Bool × List (List Nat × List Nat):=(true,[([],[]),([],[]),([],[]),([1,2],[1,2]),([3],[3]),([0,4],[0,4]),([5],[5]),([6],[6]),([6],[6]),([7,5,0,1,2,3,4,5,6,7],[7]),([8,9,0,1,2,3,4,5,6,7,8,9],[8])])
def fI.B4:List Nat:=[0,0,0,6,14,31,63,127,127,255,1023]
theorem fI.Zi:eB .any (opsOf Try.f125 4)=fI.T4:=by kernel_rfl
theorem fI.Ug:ie fI.T4.2 fI.B4=true:=by kernel_rfl
def fI.T5:Bool × List (List Nat × List Nat):=(true,[([],[]),([],[]),([],[]),([2],[2]),([],[]),([4],[4]),([3,5],[3,5]),([1,6],[1,6]),([7],[7]),([0,8],[0,8]),([9],[9]),([10],[10]),([10],[10]),([11,9,0,1,2,3,4,5,6,7,8,9,10,11],[11]),([12,13,0,1,2,3,4,5,6,7,8,9,10,11,12,13],[12])])
def fI.B5:List Nat:=[0,0,0,4,0,16,60,126,254,511,1023,2047,2047,4095,16383]
theorem fI.Bl:eB .any (opsOf Try.f125 5)=fI.T5:=by kernel_rfl
theorem fI.Aj:ie fI.T5.2 fI.B5=true:=by kernel_rfl
set_option maxHeartbeats 8000000 in
set_option maxRecDepth 100000 in
theorem fI.calls (k : Nat) (as0 : Int) (bu : Option Addr) (bq : Nat) (ak : List (List Int)) (A1 : Option Addr) (c1 : Nat) (l1 : List Int) (r : Bool) (w : World) (dy : Kd.C (Kd.slice 2 (Kd.int .i64)) w bu ak.length ak) (ey : ak.length ≤ bq) (gl : Kd.C (Kd.int .i64) w A1 l1.length l1) (iQ : l1.length ≤ c1) (h : fI.f k as0 ak l1 = some r) :
  Calls Try.prog 125 #[.agg #[.int .i64 as0,.slice bu ak.length bq],.slice A1 l1.length c1] w fun e w'=>e=.returned (.bool r)∧Below w.heap.size w w':=by
 have gV:=Try.underlying26
 have dJ:=k0 dy
 have iK:=k0 ey
 clear dy ey
 have iM:=k0 gl
 have yE:=k0 iQ
 clear gl iQ
 have HB:=k0 (Below.refl w.heap.size w)
 unfold fI.f at h
 have H:=h
 clear h
 have H':=k0 H
 clear H
 go_enter Try.func125,Try.ntmps125
 go_wp2_with (first|(refine aX (N:=2) rfl ?_;refine dL 2 #[.int .i64 as0,.slice bu ak.length bq] 26 bl ?_;intro ay w3 aa bn HB;have cG:=bn))
 go_loopg [5] k (fun kq v5 w'=>∃ (aD:Int),v5=.int .i64 aD∧af (fI.l0 kq l1 aD as0 ak=some r)∧af (kq≤k)∧af (w'.heap[ay]?=some (sO as0 bu ak bq 26))∧af (Below w.heap.size w w'))
 case atStart=>exact ⟨(0),rs,H',⟨Nat.le_refl _⟩,⟨bk⟩,⟨bl⟩⟩
 case round =>
  clear H'
  obtain ⟨aD,rfl,HA,as3,aa,HB⟩:=hrel
  cases gk with
  | zero=>exact absurd HA.z (by simp [fI.l0])
  | succ k1 =>
   have H:=HA.z
   clear HA
   simp only [fI.l0] at H
   replace H:=iC H;obtain ⟨gI,H⟩|⟨gI,H⟩:=H
   case inl =>
    obtain rfl:=Option.some.inj H
    go_wp2
    go_ret
    exact ⟨eR,bl⟩
   replace H:=iS H;obtain ⟨c5,H⟩:=H
   have gJ:=decide_eq_true c5
   clear c5
   replace H:=bS H;obtain ⟨⟨t103,t104⟩,A6,H⟩:=H
   dsimp only at H
   by_cases c7:(l1.length:Int)=0
   case neg =>
    rw [if_neg c7] at H
    have pn:=beq_eq_false_iff_ne.mpr c7
    have au5:=bne_iff_ne.mpr c7
    have anR:¬ (l1=[]):=fun h_=>c7 (by rw [h_];rfl)
    obtain ⟨qg,AI⟩:∃ j_:Int,(Int.tmod (wrap64 (aD+1)) (l1.length:Int))=j_:=⟨_,rfl⟩
    replace H:(if 0≤(qg) then (if (qg) < (l1.length:Int) then ((atT.f as0 ak (rd l1 (qg))).bind fun gi=>(if gi.1=t104 then (fI.l0 k1 l1 (wrap64 (aD+1)) as0 ak) else (some false))) else (none)) else (none))=some r:=by first|(rw [AI] at H;exact H)|(simp only [AI] at H ⊢;exact H)
    (try rw [AI] at A6)
    replace H:=iS H;obtain ⟨c9,H⟩:=H
    have au6:=decide_eq_true c9
    clear c9
    replace H:=iS H;obtain ⟨c10,H⟩:=H
    have iw:=decide_eq_true c10
    clear c10
    replace H:=bS H;obtain ⟨⟨t106,t107⟩,xE,H⟩:=H
    dsimp only at H
    replace H:=iE H;obtain ⟨c12,pg,Ek,H⟩|⟨pg,Ek,H⟩:=H
    case inl =>
     obtain rfl:=Option.some.inj H
     try go_wp2
     replace aa:=k0 (dg aa.z);replace HB:=k0 (eZ HB.z)
     obtain ⟨cW,cX⟩:=iN aD (l1.length:Int)
     obtain ⟨lA,e102,eP⟩:=Kd.bK iM.z aD cW cX
     have AW:=eP
     cases e102
     replace eP:=hbc HB eP
     replace cW:=eT cW
     replace cX:=eT cX
     refine atG (n:=11) (S:=fun w'=>w'.cell? ⟨ay,0,none⟩=some (.int .i64 as0)∧w'.cell? ⟨ay,1,none⟩=some (.slice bu ak.length bq)∧w'.cell? (lA.add (aD).toNat)=some (.int .i64 (rd l1 aD))) (ds:=[]) (ba 11 0) (by kernel_rfl) rfl rfl ⟨dU aa,ej aa,(hbc HB AW)⟩ (fun hHeld=>?_);refine jX fI.Zi fI.Ug (fun aj bP=>?_)
     generalize wr.drew=yq at aa HB eP hHeld ⊢
     refine pu 1 (some 18) (ba 11 2) aj (h:=?_)
     refine pu 2 (some 19) (ba 11 6) aj (h:=?_)
     refine pu 3 (some 20) (ba 11 14) aj (h:=?_)
     refine jA 0 (some 17) (ba 11 15) aj bP hHeld (h:=?_)
     refine jA 4 (some 21) (ba 11 31) aj bP hHeld (h:=?_)
     refine atw (i:=5) (N:=some 22) (ba 11 63) rfl rfl (atq aj.out (by kernel_rfl)) (by decide) (fun K hK=>?_)
     refine mI Try.func113 (by kernel_rfl) rfl #[.agg #[.int .i64 as0,.slice bu ak.length bq],.int .i64 (rd l1 aD)] (by rfl) rfl rfl gm ?_
     with_reducible refine (atT.calls as0 _ _ ak (rd l1 aD) t103 t104 _ ?av ?ax A6.z).mono ?_
     (case av=>exact aC (Kd.bL dJ.z HB.z))
     (case ax=>exact iK.z)
     rintro e Fc ⟨rfl,hb⟩
     refine ⟨_,rfl,?_⟩
     replace aa:=kB aa hb;replace HB:=bW hb
     refine hK.out _ _ ⟨dU aa,ej aa,(hbc HB AW)⟩ (fun hHeld=>?_)
     clear hK K
     refine hJ (a':=?_) ?_ ?_
     rotate_left;· show Act.put _ (some 22) _=_;simp only [Act.put,zI,zZ,zS,bp,bH];rfl
     refine pu 6 (some 16) (ba 11 127) aj (h:=?_)
     refine pu 7 (some 23) (ba 11 255) aj (h:=?_)
     refine pu 8 (some 24) (ba 11 511) aj (h:=?_)
     refine pu 9 (some 6) (ba 11 1023) aj (h:=?_)
     refine pu 10 (some 7) (ba 11 2047) aj (h:=?_)
     refine gY (jU aj.out (by kernel_rfl)) ?_
     try go_wp2
     replace aa:=k0 (dg aa.z);replace HB:=k0 (eZ HB.z)
     have dm:0≤((qg):Int):=oD
     have c_:(qg) < (l1.length:Int):=oD
     obtain ⟨jo,e105,dO⟩:=Kd.bK iM.z (qg) dm c_
     have HN:=dO
     obtain rfl:lA=jo:=(by injection e105)
     replace dO:=hbc HB dO
     replace dm:=eT dm
     replace c_:=eT c_
     refine atG (n:=15) (S:=fun w'=>w'.cell? ⟨ay,0,none⟩=some (.int .i64 as0)∧w'.cell? ⟨ay,1,none⟩=some (.slice bu ak.length bq)∧w'.cell? (lA.add ((qg)).toNat)=some (.int .i64 (rd l1 (qg)))) (ds:=[]) (ba 15 0) (by kernel_rfl) rfl rfl ⟨dU aa,ej aa,(hbc HB HN)⟩ (fun hHeld=>?_);refine jX fI.Bl fI.Aj (fun aj bP=>?_)
     generalize Fc.drew=C_ at aa HB dO hHeld ⊢
     refine pu 1 (some 27) (ba 15 2) aj (h:=?_)
     refine pu 2 (some 28) (ba 15 6) aj (h:=?_)
     refine pu 3 (some 29) (ba 15 14) aj (h:=?_)
     refine pu 4 (some 30) (ba 15 30) aj (h:=?_)
     refine pu 5 (some 31) (ba 15 62) aj (h:=?_)
     refine pu 6 (some 32) (ba 15 126) aj (h:=?_)
     refine pu 7 (some 33) (ba 15 254) aj (h:=?_)
     refine jA 0 (some 26) (ba 15 255) aj bP hHeld (h:=?_)
     refine jA 8 (some 34) (ba 15 511) aj bP hHeld (h:=?_)
     refine atw (i:=9) (N:=some 35) (ba 15 1023) rfl rfl (atq aj.out (by kernel_rfl)) (by decide) (fun K hK=>?_)
     refine mI Try.func113 (by kernel_rfl) rfl #[.agg #[.int .i64 as0,.slice bu ak.length bq],.int .i64 (rd l1 (qg))] (by rfl) rfl rfl (by (try simp only [List.map_toArray,List.map_cons,List.map_nil]);first|done|(simp only [AI];rfl)|rfl|(simp only [List.length_drop,List.length_take];rfl)) ?_
     with_reducible refine (atT.calls as0 _ _ ak (rd l1 (qg)) t106 t107 _ ?av ?ax xE.z).mono ?_
     (case av=>exact aC (Kd.bL dJ.z HB.z))
     (case ax=>exact iK.z)
     rintro e Iw ⟨rfl,hb⟩
     refine ⟨_,rfl,?_⟩
     replace aa:=kB aa hb;replace HB:=bW hb
     refine hK.out _ _ ⟨dU aa,ej aa,(hbc HB HN)⟩ (fun hHeld=>?_)
     clear hK K
     refine hJ (a':=?_) ?_ ?_
     rotate_left;· show Act.put _ (some 35) _=_;simp only [Act.put,zI,zZ,zS,bp,bH];rfl
     refine pu 10 (some 25) (ba 15 2047) aj (h:=?_)
     refine pu 11 (some 36) (ba 15 4095) aj (h:=?_)
     refine pu 12 (some 37) (ba 15 8191) aj (h:=?_)
     refine pu 13 (some 8) (ba 15 16383) aj (h:=?_)
     refine pu 14 (some 9) (ba 15 32767) aj (h:=?_)
     refine gY (jU aj.out (by kernel_rfl)) ?_
     try go_wp2
     go_ret
     exact ⟨by first|rfl|(simp [kG,kH]<;>rfl)|(simp only [← AI];first|rfl|(simp [kG,kH]<;>rfl))|(simp [*,kG,kH]<;>rfl),bl⟩
    have H':=k0 H
    clear H
    try go_wp2
    replace aa:=k0 (dg aa.z);replace HB:=k0 (eZ HB.z)
    obtain ⟨cW,cX⟩:=iN aD (l1.length:Int)
    obtain ⟨lA,e102,eP⟩:=Kd.bK iM.z aD cW cX
    have AW:=eP
    cases e102
    replace eP:=hbc HB eP
    replace cW:=eT cW
    replace cX:=eT cX
    refine atG (n:=11) (S:=fun w'=>w'.cell? ⟨ay,0,none⟩=some (.int .i64 as0)∧w'.cell? ⟨ay,1,none⟩=some (.slice bu ak.length bq)∧w'.cell? (lA.add (aD).toNat)=some (.int .i64 (rd l1 aD))) (ds:=[]) (ba 11 0) (by kernel_rfl) rfl rfl ⟨dU aa,ej aa,(hbc HB AW)⟩ (fun hHeld=>?_);refine jX fI.Zi fI.Ug (fun aj bP=>?_)
    generalize wr.drew=rK at aa HB eP hHeld ⊢
    refine pu 1 (some 18) (ba 11 2) aj (h:=?_)
    refine pu 2 (some 19) (ba 11 6) aj (h:=?_)
    refine pu 3 (some 20) (ba 11 14) aj (h:=?_)
    refine jA 0 (some 17) (ba 11 15) aj bP hHeld (h:=?_)
    refine jA 4 (some 21) (ba 11 31) aj bP hHeld (h:=?_)
    refine atw (i:=5) (N:=some 22) (ba 11 63) rfl rfl (atq aj.out (by kernel_rfl)) (by decide) (fun K hK=>?_)
    refine mI Try.func113 (by kernel_rfl) rfl #[.agg #[.int .i64 as0,.slice bu ak.length bq],.int .i64 (rd l1 aD)] (by rfl) rfl rfl gm ?_
    with_reducible refine (atT.calls as0 _ _ ak (rd l1 aD) t103 t104 _ ?av ?ax A6.z).mono ?_
    (case av=>exact aC (Kd.bL dJ.z HB.z))
    (case ax=>exact iK.z)
    rintro e vk ⟨rfl,hb⟩
    refine ⟨_,rfl,?_⟩
    replace aa:=kB aa hb;replace HB:=bW hb
    refine hK.out _ _ ⟨dU aa,ej aa,(hbc HB AW)⟩ (fun hHeld=>?_)
    clear hK K
    refine hJ (a':=?_) ?_ ?_
    rotate_left;· show Act.put _ (some 22) _=_;simp only [Act.put,zI,zZ,zS,bp,bH];rfl
    refine pu 6 (some 16) (ba 11 127) aj (h:=?_)
    refine pu 7 (some 23) (ba 11 255) aj (h:=?_)
    refine pu 8 (some 24) (ba 11 511) aj (h:=?_)
    refine pu 9 (some 6) (ba 11 1023) aj (h:=?_)
    refine pu 10 (some 7) (ba 11 2047) aj (h:=?_)
    refine gY (jU aj.out (by kernel_rfl)) ?_
    try go_wp2
    replace aa:=k0 (dg aa.z);replace HB:=k0 (eZ HB.z)
    have dm:0≤((qg):Int):=oD
    have c_:(qg) < (l1.length:Int):=oD
    obtain ⟨jo,e105,dO⟩:=Kd.bK iM.z (qg) dm c_
    have HN:=dO
    obtain rfl:lA=jo:=(by injection e105)
    replace dO:=hbc HB dO
    replace dm:=eT dm
    replace c_:=eT c_
    refine atG (n:=15) (S:=fun w'=>w'.cell? ⟨ay,0,none⟩=some (.int .i64 as0)∧w'.cell? ⟨ay,1,none⟩=some (.slice bu ak.length bq)∧w'.cell? (lA.add ((qg)).toNat)=some (.int .i64 (rd l1 (qg)))) (ds:=[]) (ba 15 0) (by kernel_rfl) rfl rfl ⟨dU aa,ej aa,(hbc HB HN)⟩ (fun hHeld=>?_);refine jX fI.Bl fI.Aj (fun aj bP=>?_)
    generalize vk.drew=sF at aa HB dO hHeld ⊢
    refine pu 1 (some 27) (ba 15 2) aj (h:=?_)
    refine pu 2 (some 28) (ba 15 6) aj (h:=?_)
    refine pu 3 (some 29) (ba 15 14) aj (h:=?_)
    refine pu 4 (some 30) (ba 15 30) aj (h:=?_)
    refine pu 5 (some 31) (ba 15 62) aj (h:=?_)
    refine pu 6 (some 32) (ba 15 126) aj (h:=?_)
    refine pu 7 (some 33) (ba 15 254) aj (h:=?_)
    refine jA 0 (some 26) (ba 15 255) aj bP hHeld (h:=?_)
    refine jA 8 (some 34) (ba 15 511) aj bP hHeld (h:=?_)
    refine atw (i:=9) (N:=some 35) (ba 15 1023) rfl rfl (atq aj.out (by kernel_rfl)) (by decide) (fun K hK=>?_)
    refine mI Try.func113 (by kernel_rfl) rfl #[.agg #[.int .i64 as0,.slice bu ak.length bq],.int .i64 (rd l1 (qg))] (by rfl) rfl rfl (by (try simp only [List.map_toArray,List.map_cons,List.map_nil]);first|done|(simp only [AI];rfl)|rfl|(simp only [List.length_drop,List.length_take];rfl)) ?_
    with_reducible refine (atT.calls as0 _ _ ak (rd l1 (qg)) t106 t107 _ ?av ?ax xE.z).mono ?_
    (case av=>exact aC (Kd.bL dJ.z HB.z))
    (case ax=>exact iK.z)
    rintro e yp ⟨rfl,hb⟩
    refine ⟨_,rfl,?_⟩
    replace aa:=kB aa hb;replace HB:=bW hb
    refine hK.out _ _ ⟨dU aa,ej aa,(hbc HB HN)⟩ (fun hHeld=>?_)
    clear hK K
    refine hJ (a':=?_) ?_ ?_
    rotate_left;· show Act.put _ (some 35) _=_;simp only [Act.put,zI,zZ,zS,bp,bH];rfl
    refine pu 10 (some 25) (ba 15 2047) aj (h:=?_)
    refine pu 11 (some 36) (ba 15 4095) aj (h:=?_)
    refine pu 12 (some 37) (ba 15 8191) aj (h:=?_)
    refine pu 13 (some 8) (ba 15 16383) aj (h:=?_)
    refine pu 14 (some 9) (ba 15 32767) aj (h:=?_)
    refine gY (jU aj.out (by kernel_rfl)) ?_
    try go_wp2
    first|go_roundg k1|(simp only [← AI];go_roundg k1)
    case measure=>have:=as3.z;omega
    case rel=>exact ⟨(wrap64 (aD+1)),rs,(by first|exact H'|(rw [AI];exact H')),⟨by have:=as3.z;omega⟩,⟨bk⟩,⟨bl⟩⟩
   rw [if_pos c7] at H
   exact absurd H (by simp)
end Go.Proofs.Ytapnggjaeehpdaa.B
/- Set with little white space, by a program. -/
