/- The walk of FnExactReduceChips: where its callees answer as its pure statement says, it answers true. Condition: that statement. -/
import Derived.Test.YtoebojnhchocaaaBx
namespace Go.Proofs.Ytoebojnhchocaaa.B
open Go.RowKit Go.Proofs.bC.eg Go.Proofs.bC.iZ Go.Proofs.bC.jr
set_option linter.unusedVariables false
set_option linter.unusedSimpArgs false
set_option maxHeartbeats 8000000 in
set_option maxRecDepth 100000 in
theorem amz.aeD (a0 : Int) (A0 : Option Addr) (c0 : Nat) (l0 : List (List Int)) (A1 : Option Addr) (c1 : Nat) (l1 : List Int) (a2 : Int) (w : World) (cI : Kd.C (Kd.slice 2 (Kd.int .i64)) w A0 l0.length l0) (hc0 : l0.length ≤ c0) (cE : Kd.C (Kd.int .i64) w A1 l1.length l1) (dW : l1.length ≤ c1)   (qG : 1048576 < l1.length) :
  Calls Try.prog 4 #[.agg #[.int .i64 a0,.slice A0 l0.length c0],.slice A1 l1.length c1,.int .i64 a2] w fun e w'=>e=.returned (.bool true)∧Below w.heap.size w w':=by
 have eA:=k0 cI
 have eP:=k0 cE
 have HB:=k0 (Below.refl w.heap.size w)
 clear cI cE
 have Rp:decide ((1048576:Int) < (l1.length:Int))=true:=by simp;omega
 go_enter Try.func4,Try.ntmps4
 try clear dy dz
 go_wp2
 go_ret
 exact ⟨by first|rfl|(simp;done)|(simp [*];done),(by repeat (first|exact HB.out|apply bL|apply bX|apply bH))⟩
set_option maxHeartbeats 8000000 in
set_option maxRecDepth 100000 in
theorem amz.aeE (a0 : Int) (A0 : Option Addr) (c0 : Nat) (l0 : List (List Int)) (A1 : Option Addr) (c1 : Nat) (l1 : List Int) (a2 : Int) (w : World) (cI : Kd.C (Kd.slice 2 (Kd.int .i64)) w A0 l0.length l0) (hc0 : l0.length ≤ c0) (cE : Kd.C (Kd.int .i64) w A1 l1.length l1) (dW : l1.length ≤ c1)  (qG : l1.length ≤ 1048576) (k : Nat) (z0 : Int) (uh : z0 < 0) (yC : qi.f k a0 l0 1048576 = some z0) :
  Calls Try.prog 4 #[.agg #[.int .i64 a0,.slice A0 l0.length c0],.slice A1 l1.length c1,.int .i64 a2] w fun e w'=>e=.returned (.bool true)∧Below w.heap.size w w':=by
 have eA:=k0 cI
 have eP:=k0 cE
 have HB:=k0 (Below.refl w.heap.size w)
 have BO:=k0 yC
 clear yC
 have Xe:decide (z0 < 0)=true:=by simp;omega
 clear cI cE
 have Rp:decide ((1048576:Int) < (l1.length:Int))=false:=by simp;omega
 go_enter Try.func4,Try.ntmps4
 try clear dy dz
 go_wp2_with fail
 refine (qi.calls k a0 _ _ l0 1048576 z0 _ (Kd.bI eA.out (by repeat (first|exact HB.out|apply bL|apply bX|apply bH))) hc0 BO.out).mono ?_
 rintro e w1 ⟨rfl,aA⟩
 have gQ:=k0 (by repeat (first|exact HB.out|apply bL|apply bX|apply bH))
 clear gQ
 have cU:ak (w1.heap[w.heap.size]?=some (sO a0 A0 l0 c0 24)):=⟨alg (by (first|exact heap_alloc_new _ _|(refine alo ?_ _;exact heap_alloc_new _ _)|((with_reducible repeat (first|refine cm ?_ _|refine bJ ?_|refine alo ?_ _));exact bf.out))) aA⟩
 have mN:ak (w.heap.size+1≤w1.heap.size):=⟨by have h_:=aA.size;(try simp at h_);omega⟩
 have cT:=k0 (aG (by repeat (first|exact HB.out|apply bL|apply bX|apply bH)) aA)
 clear HB aA
 have HB:=cT
 clear cT
 have bf:=cU
 clear cU
 try clear dy dz
 have gA:=alq bf.out
 have dy:=(av bf.out 0).trans rfl
 have dz:=(av bf.out 1).trans rfl
 go_wp2
 go_ret
 exact ⟨by first|rfl|(simp;done)|(simp [*];done),(by repeat (first|exact HB.out|apply bL|apply bX|apply bH))⟩
set_option maxHeartbeats 8000000 in
set_option maxRecDepth 100000 in
theorem amz.WZ (k : Nat) (a0 : Int) (A0 : Option Addr) (c0 : Nat) (l0 : List (List Int)) (A1 : Option Addr) (c1 : Nat) (l1 : List Int) (a2 : Int) (w : World) (cI : Kd.C (Kd.slice 2 (Kd.int .i64)) w A0 l0.length l0) (hc0 : l0.length ≤ c0) (cE : Kd.C (Kd.int .i64) w A1 l1.length l1) (dW : l1.length ≤ c1)  (z0 : Int) (uh : 0 ≤ z0) (ic : List Int) (sH : Int) (m0 : Int) (y0 : List (List Int)) (m1 : Int) (y1 : List Int) (rN : Int) (sM : List Int) (hlm : 0 ≤ m1) (RD : 0 ≤ rN) (qG : l1.length ≤ 1048576) (MV : qj.f k a0 l0 = some (a0, l0)) (M5 : sP.f k a0 l0 a0 l0 = some true) (MW : gB.f k l1 = some l1) (M6 : fN.f k l1 l1 = some true) (yC : qi.f k a0 l0 1048576 = some z0) (M7 : o_.f k a0 l0 l1 a2 = some (ic, sH)) (MY : og.f k a0 l0 l1 a2 = some (ic, sH)) (MU : fN.f k ic ic = some true) (M1 : nj.f k l0 1 = some (m0, y0)) (M3 : iy.f k l1 m0 = some (m1, y1)) (M4 : iy.f k ic 1 = some (rN, sM)) (MX : jK.f k sM 1 = some rN) :
  Calls Try.prog 4 #[.agg #[.int .i64 a0,.slice A0 l0.length c0],.slice A1 l1.length c1,.int .i64 a2] w fun e w'=>e=.returned (.bool true)∧Below w.heap.size w w':=by
 have eA:=k0 cI
 have eP:=k0 cE
 have HB:=k0 (Below.refl w.heap.size w)
 have Ah:=k0 MV
 have Hv:=k0 M5
 have am8:=k0 MW
 have Hw:=k0 M6
 have BO:=k0 yC
 have FS:=k0 M7
 have FI:=k0 MY
 have BN:=k0 MU
 have Hs:=k0 M1
 have Ht:=k0 M3
 have Hu:=k0 M4
 have ED:=k0 MX
 clear cI cE MV M5 MW M6 yC M7 MY MU M1 M3 M4 MX
 have Xe:decide (z0 < 0)=false:=by simp;omega
 have bm_:decide (m1 < 0)=false:=by simp;omega
 have bn_:decide (rN < 0)=false:=by simp;omega
 have Rp:decide ((1048576:Int) < (l1.length:Int))=false:=by simp;omega
 go_enter Try.func4,Try.ntmps4
 try clear dy dz
 go_wp2_with fail
 refine (qi.calls k a0 _ _ l0 1048576 z0 _ (Kd.bI eA.out (by repeat (first|exact HB.out|apply bL|apply bX|apply bH))) hc0 BO.out).mono ?_
 rintro e w1 ⟨rfl,aA⟩
 have gQ:=k0 (by repeat (first|exact HB.out|apply bL|apply bX|apply bH))
 clear gQ
 have cU:ak (w1.heap[w.heap.size]?=some (sO a0 A0 l0 c0 24)):=⟨alg (by (first|exact heap_alloc_new _ _|(refine alo ?_ _;exact heap_alloc_new _ _)|((with_reducible repeat (first|refine cm ?_ _|refine bJ ?_|refine alo ?_ _));exact bf.out))) aA⟩
 have mN:ak (w.heap.size+1≤w1.heap.size):=⟨by have h_:=aA.size;(try simp at h_);omega⟩
 have cT:=k0 (aG (by repeat (first|exact HB.out|apply bL|apply bX|apply bH)) aA)
 clear HB aA
 have HB:=cT
 clear cT
 have bf:=cU
 clear cU
 try clear dy dz
 have gA:=alq bf.out
 have dy:=(av bf.out 0).trans rfl
 have dz:=(av bf.out 1).trans rfl
 go_wp2_with fail
 clear gA dy dz
 refine (qj.calls k a0 _ _ l0 a0 l0 _ (Kd.bI eA.out (by repeat (first|exact HB.out|apply bL|apply bX|apply bH))) hc0 Ah.out).mono ?_
 rintro e w2 ⟨vt0,rfl,RX,aA⟩
 have gQ:=k0 (by repeat (first|exact HB.out|apply bL|apply bX|apply bH))
 have yG:ak (Kd.S (Kd.slice 2 (Kd.int .i64)) 28 w2 w.heap.size (fun k_=>w1.heap.size≤k_∧k_ < w2.heap.size) _ l0):=⟨Kd.iM (Kd.pU (Kd.AA RX) (by have h_:=gQ.out.size;(try simp at h_);(try simp);omega)) (fun k_ b8=>⟨by have h_:=b8.2.1;(try simp at h_);omega,b8.2.2.1⟩)⟩
 clear gQ RX
 have cU:ak (w2.heap[w.heap.size]?=some (sO a0 A0 l0 c0 24)):=⟨alg (by (first|exact heap_alloc_new _ _|(refine alo ?_ _;exact heap_alloc_new _ _)|((with_reducible repeat (first|refine cm ?_ _|refine bJ ?_|refine alo ?_ _));exact bf.out))) aA⟩
 have ny:ak (w1.heap.size+0≤w2.heap.size):=⟨by have h_:=aA.size;(try simp at h_);omega⟩
 have cT:=k0 (aG (by repeat (first|exact HB.out|apply bL|apply bX|apply bH)) aA)
 clear HB bf aA
 have HB:=cT
 clear cT
 have bf:=cU
 clear cU
 obtain ⟨At0,ct0,Zs⟩:=Kd.qx yG.out
 subst Zs
 try clear dy dz
 have gA:=alq bf.out
 have dy:=(av bf.out 0).trans rfl
 have dz:=(av bf.out 1).trans rfl
 go_wp2_with fail
 clear gA dy dz
 refine (gB.calls k _ _ l1 l1 _ (Kd.bI eP.out (by repeat (first|exact HB.out|apply bL|apply bX|apply bH))) dW am8.out).mono ?_
 rintro e w3 ⟨vt1,rfl,RY,aA⟩
 have gQ:=k0 (by repeat (first|exact HB.out|apply bL|apply bX|apply bH))
 have EY:ak (Kd.R (Kd.int .i64) 2 w3 w.heap.size (fun k_=>w2.heap.size≤k_∧k_ < w3.heap.size) _ l1):=⟨Kd.bx (Kd.d_ (Kd.lZ RY) (by have h_:=gQ.out.size;(try simp at h_);(try simp);omega)) (fun k_ b8=>⟨by have h_:=b8.2.1;(try simp at h_);omega,b8.2.2.1⟩)⟩
 clear gQ RY
 have an3:=k0 (Kd.jt (aS yG.out) aA)
 have cU:ak (w3.heap[w.heap.size]?=some (sO a0 A0 l0 c0 24)):=⟨alg (by (first|exact heap_alloc_new _ _|(refine alo ?_ _;exact heap_alloc_new _ _)|((with_reducible repeat (first|refine cm ?_ _|refine bJ ?_|refine alo ?_ _));exact bf.out))) aA⟩
 have nA:ak (w2.heap.size+0≤w3.heap.size):=⟨by have h_:=aA.size;(try simp at h_);omega⟩
 have cT:=k0 (aG (by repeat (first|exact HB.out|apply bL|apply bX|apply bH)) aA)
 clear HB yG bf aA
 have HB:=cT
 clear cT
 have yG:=an3
 clear an3
 have bf:=cU
 clear cU
 obtain ⟨At1,ct1,Zt⟩:=Kd.fh EY.out
 subst Zt
 try clear dy dz
 have gA:=alq bf.out
 have dy:=(av bf.out 0).trans rfl
 have dz:=(av bf.out 1).trans rfl
 go_wp2_with fail
 clear gA dy dz
 refine (o_.Fp k a0 _ _ l0 _ _ l1 a2 ic sH _ (Kd.ck (aS yG.out)).2.2 (Kd.ck yG.out).2.1 (Kd.bn (aR EY.out)).2.2 (Kd.bn EY.out).2.1 FS.out).mono ?_
 rintro e w4 ⟨akG,rfl,RS,aA⟩
 have gQ:=k0 (by repeat (first|exact HB.out|apply bL|apply bX|apply bH))
 have dB:ak (Kd.R (Kd.int .i64) 2 w4 w.heap.size (fun k_=>w3.heap.size≤k_∧k_ < w4.heap.size) _ ic):=⟨Kd.bx (Kd.d_ (Kd.lZ RS) (by have h_:=gQ.out.size;(try simp at h_);(try simp);omega)) (fun k_ b8=>⟨by have h_:=b8.2.1;(try simp at h_);omega,b8.2.2.1⟩)⟩
 clear gQ RS
 clear yG
 clear EY
 have cU:ak (w4.heap[w.heap.size]?=some (sO a0 A0 l0 c0 24)):=⟨alg (by (first|exact heap_alloc_new _ _|(refine alo ?_ _;exact heap_alloc_new _ _)|((with_reducible repeat (first|refine cm ?_ _|refine bJ ?_|refine alo ?_ _));exact bf.out))) aA⟩
 have nB:ak (w3.heap.size+0≤w4.heap.size):=⟨by have h_:=aA.size;(try simp at h_);omega⟩
 have cT:=k0 (aG (by repeat (first|exact HB.out|apply bL|apply bX|apply bH)) aA)
 clear HB bf aA
 have HB:=cT
 clear cT
 have bf:=cU
 clear cU
 obtain ⟨afD,agK,Y2⟩:=Kd.fh dB.out
 subst Y2
 try clear dy dz
 have gA:=alq bf.out
 have dy:=(av bf.out 0).trans rfl
 have dz:=(av bf.out 1).trans rfl
 go_wp2_with fail
 clear gA dy dz
 refine (qj.calls k a0 _ _ l0 a0 l0 _ (Kd.bI eA.out (by repeat (first|exact HB.out|apply bL|apply bX|apply bH))) hc0 Ah.out).mono ?_
 rintro e w5 ⟨vX0,rfl,RT,aA⟩
 have gQ:=k0 (by repeat (first|exact HB.out|apply bL|apply bX|apply bH))
 have dN:ak (Kd.S (Kd.slice 2 (Kd.int .i64)) 28 w5 w.heap.size (fun k_=>w4.heap.size≤k_∧k_ < w5.heap.size) _ l0):=⟨Kd.iM (Kd.pU (Kd.AA RT) (by have h_:=gQ.out.size;(try simp at h_);(try simp);omega)) (fun k_ b8=>⟨by have h_:=b8.2.1;(try simp at h_);omega,b8.2.2.1⟩)⟩
 clear gQ RT
 have ep:=k0 (Kd.ct (aR dB.out) aA)
 have cU:ak (w5.heap[w.heap.size]?=some (sO a0 A0 l0 c0 24)):=⟨alg (by (first|exact heap_alloc_new _ _|(refine alo ?_ _;exact heap_alloc_new _ _)|((with_reducible repeat (first|refine cm ?_ _|refine bJ ?_|refine alo ?_ _));exact bf.out))) aA⟩
 have nC:ak (w4.heap.size+0≤w5.heap.size):=⟨by have h_:=aA.size;(try simp at h_);omega⟩
 have cT:=k0 (aG (by repeat (first|exact HB.out|apply bL|apply bX|apply bH)) aA)
 clear HB dB bf aA
 have HB:=cT
 clear cT
 have dB:=ep
 clear ep
 have bf:=cU
 clear cU
 obtain ⟨lV,mh,Y3⟩:=Kd.qx dN.out
 subst Y3
 try clear dy dz fC fD
 have gA:=alq bf.out
 have dy:=(av bf.out 0).trans rfl
 have dz:=(av bf.out 1).trans rfl
 go_wp2_with fail
 clear gA dy dz
 refine (gB.calls k _ _ l1 l1 _ (Kd.bI eP.out (by repeat (first|exact HB.out|apply bL|apply bX|apply bH))) dW am8.out).mono ?_
 rintro e w6 ⟨vX1,rfl,RU,aA⟩
 have gQ:=k0 (by repeat (first|exact HB.out|apply bL|apply bX|apply bH))
 have dP:ak (Kd.R (Kd.int .i64) 2 w6 w.heap.size (fun k_=>w5.heap.size+1≤k_∧k_ < w6.heap.size) _ l1):=⟨Kd.bx (Kd.d_ (Kd.lZ RU) (by have h_:=gQ.out.size;(try simp at h_);(try simp);omega)) (fun k_ b8=>⟨by have h_:=b8.2.1;(try simp at h_);omega,b8.2.2.1⟩)⟩
 clear gQ RU
 have ep:=k0 (Kd.ct (aR dB.out) aA)
 have eY:=k0 (Kd.jt (aS dN.out) aA)
 have cU:ak (w6.heap[w.heap.size]?=some (sO a0 A0 l0 c0 24)):=⟨alg (by (first|exact heap_alloc_new _ _|(refine alo ?_ _;exact heap_alloc_new _ _)|((with_reducible repeat (first|refine cm ?_ _|refine bJ ?_|refine alo ?_ _));exact bf.out))) aA⟩
 have eJ:ak (w6.heap[w5.heap.size]?=some (sO a0 lV l0 mh 31)):=⟨alg (by (first|exact heap_alloc_new _ _|(refine alo ?_ _;exact heap_alloc_new _ _)|((with_reducible repeat (first|refine cm ?_ _|refine bJ ?_|refine alo ?_ _));exact bV.out))) aA⟩
 have nD:ak (w5.heap.size+1≤w6.heap.size):=⟨by have h_:=aA.size;(try simp at h_);omega⟩
 have cT:=k0 (aG (by repeat (first|exact HB.out|apply bL|apply bX|apply bH)) aA)
 clear HB dB dN bf aA
 have HB:=cT
 clear cT
 have dB:=ep
 clear ep
 have dN:=eY
 clear eY
 have bf:=cU
 clear cU
 have bV:=eJ
 clear eJ
 obtain ⟨MJ,OH,Y4⟩:=Kd.fh dP.out
 subst Y4
 try clear dy dz fC fD
 have gA:=alq bf.out
 have dy:=(av bf.out 0).trans rfl
 have dz:=(av bf.out 1).trans rfl
 have jo:=alq bV.out
 have fC:=(av bV.out 0).trans rfl
 have fD:=(av bV.out 1).trans rfl
 go_wp2_with fail
 clear gA dy dz
 clear jo fC fD
 refine (og.Fp k a0 _ _ l0 _ _ l1 a2 ic sH _ (Kd.ck (aS dN.out)).2.2 (Kd.ck dN.out).2.1 (Kd.bn (aR dP.out)).2.2 (Kd.bn dP.out).2.1 FI.out).mono ?_
 rintro e w7 ⟨akE,rfl,RQ,aA⟩
 have gQ:=k0 (by repeat (first|exact HB.out|apply bL|apply bX|apply bH))
 have dM:ak (Kd.R (Kd.int .i64) 2 w7 w.heap.size (fun k_=>w6.heap.size≤k_∧k_ < w7.heap.size) _ ic):=⟨Kd.bx (Kd.d_ (Kd.lZ RQ) (by have h_:=gQ.out.size;(try simp at h_);(try simp);omega)) (fun k_ b8=>⟨by have h_:=b8.2.1;(try simp at h_);omega,b8.2.2.1⟩)⟩
 clear gQ RQ
 have ep:=k0 (Kd.ct (aR dB.out) aA)
 have eY:=k0 (Kd.jt (aS dN.out) aA)
 have fB:=k0 (Kd.ct (aR dP.out) aA)
 have cU:ak (w7.heap[w.heap.size]?=some (sO a0 A0 l0 c0 24)):=⟨alg (by (first|exact heap_alloc_new _ _|(refine alo ?_ _;exact heap_alloc_new _ _)|((with_reducible repeat (first|refine cm ?_ _|refine bJ ?_|refine alo ?_ _));exact bf.out))) aA⟩
 have eJ:ak (w7.heap[w5.heap.size]?=some (sO a0 lV l0 mh 31)):=⟨alg (by (first|exact heap_alloc_new _ _|(refine alo ?_ _;exact heap_alloc_new _ _)|((with_reducible repeat (first|refine cm ?_ _|refine bJ ?_|refine alo ?_ _));exact bV.out))) aA⟩
 have nE:ak (w6.heap.size+0≤w7.heap.size):=⟨by have h_:=aA.size;(try simp at h_);omega⟩
 have cT:=k0 (aG (by repeat (first|exact HB.out|apply bL|apply bX|apply bH)) aA)
 clear HB dB dN dP bf bV aA
 have HB:=cT
 clear cT
 have dB:=ep
 clear ep
 have dN:=eY
 clear eY
 have dP:=fB
 clear fB
 have bf:=cU
 clear cU
 have bV:=eJ
 clear eJ
 obtain ⟨MI,OG,Y0⟩:=Kd.fh dM.out
 subst Y0
 try clear dy dz fC fD
 have gA:=alq bf.out
 have dy:=(av bf.out 0).trans rfl
 have dz:=(av bf.out 1).trans rfl
 have jo:=alq bV.out
 have fC:=(av bV.out 0).trans rfl
 have fD:=(av bV.out 1).trans rfl
 go_wp2_with fail
 clear gA dy dz
 clear jo fC fD
 refine (fN.calls k _ _ ic _ _ ic true _ (Kd.bn (aR dM.out)).2.2 (Kd.bn dM.out).2.1 (Kd.bn (aR dB.out)).2.2 (Kd.bn dB.out).2.1 BN.out).mono ?_
 rintro e w8 ⟨rfl,oC⟩
 have aA:=oC.below
 clear oC
 have ep:=k0 (Kd.ct (aR dB.out) aA)
 have eY:=k0 (Kd.jt (aS dN.out) aA)
 have fB:=k0 (Kd.ct (aR dP.out) aA)
 have fQ:=k0 (Kd.ct (aR dM.out) aA)
 have cU:ak (w8.heap[w.heap.size]?=some (sO a0 A0 l0 c0 24)):=⟨alg (by (first|exact heap_alloc_new _ _|(refine alo ?_ _;exact heap_alloc_new _ _)|((with_reducible repeat (first|refine cm ?_ _|refine bJ ?_|refine alo ?_ _));exact bf.out))) aA⟩
 have eJ:ak (w8.heap[w5.heap.size]?=some (sO a0 lV l0 mh 31)):=⟨alg (by (first|exact heap_alloc_new _ _|(refine alo ?_ _;exact heap_alloc_new _ _)|((with_reducible repeat (first|refine cm ?_ _|refine bJ ?_|refine alo ?_ _));exact bV.out))) aA⟩
 have nF:ak (w7.heap.size+0≤w8.heap.size):=⟨by have h_:=aA.size;(try simp at h_);omega⟩
 have cT:=k0 (aG (by repeat (first|exact HB.out|apply bL|apply bX|apply bH)) aA)
 clear HB dB dN dP dM bf bV aA
 have HB:=cT
 clear cT
 have dB:=ep
 clear ep
 have dN:=eY
 clear eY
 have dP:=fB
 clear fB
 have dM:=fQ
 clear fQ
 have bf:=cU
 clear cU
 have bV:=eJ
 clear eJ
 try clear dy dz fC fD
 have gA:=alq bf.out
 have dy:=(av bf.out 0).trans rfl
 have dz:=(av bf.out 1).trans rfl
 have jo:=alq bV.out
 have fC:=(av bV.out 0).trans rfl
 have fD:=(av bV.out 1).trans rfl
 go_wp2_with fail
 clear gA dy dz
 clear jo fC fD
 have ep:=k0 (Kd.alp dB.out)
 have eY:=k0 (Kd.fI dN.out)
 have fB:=k0 (Kd.alp dP.out)
 have fQ:=k0 (Kd.alp dM.out)
 have cU:=k0 (bJ bf.out)
 have eJ:=k0 (bJ bV.out)
 have cT:=k0 (bH HB.out)
 have mO:ak (w8.heap.size+0≤(w8.drew).heap.size):=⟨by simp⟩
 clear HB dB dN dP dM bf bV
 have HB:=cT
 clear cT
 have dB:=ep
 clear ep
 have dN:=eY
 clear eY
 have dP:=fB
 clear fB
 have dM:=fQ
 clear fQ
 have bf:=cU
 clear cU
 have bV:=eJ
 clear eJ
 refine nT (n:=5) (S:=fun w'=>w'.cell? ⟨w5.heap.size,0,none⟩=some (.int .i64 a0)∧w'.cell? ⟨w5.heap.size,1,none⟩=some (.slice lV l0.length mh)∧w'.cell? ⟨w.heap.size,0,none⟩=some (.int .i64 a0)∧w'.cell? ⟨w.heap.size,1,none⟩=some (.slice A0 l0.length c0)) (ds:=[]) #[false,false,false,false,false] (by kernel_rfl) rfl rfl ⟨(av bV.out 0).trans rfl,(av bV.out 1).trans rfl,(av bf.out 0).trans rfl,(av bf.out 1).trans rfl⟩ (fun hHeld=>?_)
 generalize w8.drew=w9 at HB mO hHeld dB dN dP dM bf bV ⊢
 refine qb (i:=0) (N:=some 56) (v:=?_) (a':=?_) #[true,false,false,false,false] rfl rfl (by kernel_rfl) (fun _ _ _ h=>h) (Or.inl ⟨by rfl,?_⟩) hHeld ?_ ?_
 rotate_left
 ·rintro w' ⟨s0_, s1_, s2_, s3_⟩
  go_simp
  with_reducible rfl
 rotate_left
 ·simp only [Act.put, List.setIfInBounds_toArray, List.set_cons_zero, List.set_cons_succ, cQ, dr]
  rfl
 refine qb (i:=1) (N:=some 57) (v:=?_) (a':=?_) #[true,true,false,false,false] rfl rfl (by kernel_rfl) (fun _ _ _ h=>h) (Or.inl ⟨by rfl,?_⟩) hHeld ?_ ?_
 rotate_left
 ·rintro w' ⟨s0_, s1_, s2_, s3_⟩
  go_simp
  with_reducible rfl
 rotate_left
 ·simp only [Act.put, List.setIfInBounds_toArray, List.set_cons_zero, List.set_cons_succ, cQ, dr]
  rfl
 refine sG (i:=2) (N:=some 58) #[true,true,true,false,false] rfl rfl (by kernel_rfl) (by decide) (fun K hK=>?_)
 refine rC Try.func25 (by kernel_rfl) rfl #[.agg #[.int .i64 a0,.slice A0 l0.length c0]] (by rfl) rfl rfl (by (try simp only [List.map_toArray,List.map_cons,List.map_nil]);first|done|rfl) ?_
 refine (qj.calls k a0 _ _ l0 a0 l0 _ (Kd.bI eA.out (by repeat (first|exact HB.out|apply bL|apply bX|apply bH))) hc0 Ah.out).mono ?_
 rintro e fJ ⟨ve0,rfl,RV,aA⟩
 refine ⟨_,rfl,?_⟩
 have gQ:=k0 (by repeat (first|exact HB.out|apply bL|apply bX|apply bH))
 have EX:ak (Kd.S (Kd.slice 2 (Kd.int .i64)) 28 fJ w.heap.size (fun k_=>w9.heap.size≤k_∧k_ < fJ.heap.size) _ l0):=⟨Kd.iM (Kd.pU (Kd.AA RV) (by have h_:=gQ.out.size;(try simp at h_);(try simp);omega)) (fun k_ b8=>⟨by have h_:=b8.2.1;(try simp at h_);omega,b8.2.2.1⟩)⟩
 clear gQ RV
 have ep:=k0 (Kd.ct (aR dB.out) aA)
 have eY:=k0 (Kd.jt (aS dN.out) aA)
 have fB:=k0 (Kd.ct (aR dP.out) aA)
 have fQ:=k0 (Kd.ct (aR dM.out) aA)
 have cU:ak (fJ.heap[w.heap.size]?=some (sO a0 A0 l0 c0 24)):=⟨alg (by (first|exact heap_alloc_new _ _|(refine alo ?_ _;exact heap_alloc_new _ _)|((with_reducible repeat (first|refine cm ?_ _|refine bJ ?_|refine alo ?_ _));exact bf.out))) aA⟩
 have eJ:ak (fJ.heap[w5.heap.size]?=some (sO a0 lV l0 mh 31)):=⟨alg (by (first|exact heap_alloc_new _ _|(refine alo ?_ _;exact heap_alloc_new _ _)|((with_reducible repeat (first|refine cm ?_ _|refine bJ ?_|refine alo ?_ _));exact bV.out))) aA⟩
 have nu:ak (w9.heap.size+0≤fJ.heap.size):=⟨by have h_:=aA.size;(try simp at h_);omega⟩
 have cT:=k0 (aG (by repeat (first|exact HB.out|apply bL|apply bX|apply bH)) aA)
 clear HB dB dN dP dM bf bV aA
 have HB:=cT
 clear cT
 have dB:=ep
 clear ep
 have dN:=eY
 clear eY
 have dP:=fB
 clear fB
 have dM:=fQ
 clear fQ
 have bf:=cU
 clear cU
 have bV:=eJ
 clear eJ
 obtain ⟨Uf,XX,Y6⟩:=Kd.qx EX.out
 subst Y6
 refine hK.out _ _ ⟨(av bV.out 0).trans rfl,(av bV.out 1).trans rfl,(av bf.out 0).trans rfl,(av bf.out 1).trans rfl⟩ (fun hHeld=>?_)
 clear hK K
 refine dY (a':=?_) ?_ ?_
 rotate_left
 ·show Act.put _ (some 58) _ = _
  simp only [Act.put,List.setIfInBounds_toArray,List.set_cons_zero,List.set_cons_succ,cQ,dr]
  rfl
 refine sG (i:=3) (N:=some 59) #[true,true,true,true,false] rfl rfl (by kernel_rfl) (by decide) (fun K hK=>?_)
 refine rC Try.func28 (by kernel_rfl) rfl #[.agg #[.int .i64 a0,.slice lV l0.length mh],.agg #[.int .i64 a0,.slice Uf l0.length XX]] (by rfl) rfl rfl (by (try simp only [List.map_toArray,List.map_cons,List.map_nil]);first|done|rfl) ?_
 refine (sP.calls k a0 _ _ l0 a0 _ _ l0 true _ (Kd.ck (aS dN.out)).2.2 (Kd.ck dN.out).2.1 (Kd.ck (aS EX.out)).2.2 (Kd.ck EX.out).2.1 Hv.out).mono ?_
 rintro e eM ⟨rfl,aA⟩
 refine ⟨_,rfl,?_⟩
 have gQ:=k0 (by repeat (first|exact HB.out|apply bL|apply bX|apply bH))
 clear gQ
 clear EX
 have ep:=k0 (Kd.ct (aR dB.out) aA)
 have eY:=k0 (Kd.jt (aS dN.out) aA)
 have fB:=k0 (Kd.ct (aR dP.out) aA)
 have fQ:=k0 (Kd.ct (aR dM.out) aA)
 have cU:ak (eM.heap[w.heap.size]?=some (sO a0 A0 l0 c0 24)):=⟨alg (by (first|exact heap_alloc_new _ _|(refine alo ?_ _;exact heap_alloc_new _ _)|((with_reducible repeat (first|refine cm ?_ _|refine bJ ?_|refine alo ?_ _));exact bf.out))) aA⟩
 have eJ:ak (eM.heap[w5.heap.size]?=some (sO a0 lV l0 mh 31)):=⟨alg (by (first|exact heap_alloc_new _ _|(refine alo ?_ _;exact heap_alloc_new _ _)|((with_reducible repeat (first|refine cm ?_ _|refine bJ ?_|refine alo ?_ _));exact bV.out))) aA⟩
 have nv:ak (fJ.heap.size+0≤eM.heap.size):=⟨by have h_:=aA.size;(try simp at h_);omega⟩
 have cT:=k0 (aG (by repeat (first|exact HB.out|apply bL|apply bX|apply bH)) aA)
 clear HB dB dN dP dM bf bV aA
 have HB:=cT
 clear cT
 have dB:=ep
 clear ep
 have dN:=eY
 clear eY
 have dP:=fB
 clear fB
 have dM:=fQ
 clear fQ
 have bf:=cU
 clear cU
 have bV:=eJ
 clear eJ
 refine hK.out _ _ ⟨(av bV.out 0).trans rfl,(av bV.out 1).trans rfl,(av bf.out 0).trans rfl,(av bf.out 1).trans rfl⟩ (fun hHeld=>?_)
 clear hK K
 refine dY (a':=?_) ?_ ?_
 rotate_left
 ·show Act.put _ (some 59) _ = _
  simp only [Act.put,List.setIfInBounds_toArray,List.set_cons_zero,List.set_cons_succ,cQ,dr]
  rfl
 refine nQ (i:=4) (N:=some 60) (v:=?_) (a':=?_) #[true,true,true,true,true] rfl rfl (by kernel_rfl) (fun _ _ _ h=>h) (Or.inl ⟨by rfl,?_⟩) ?_ ?_
 rotate_left
 ·intro w'
  go_simp
  with_reducible rfl
 rotate_left
 ·simp only [Act.put, List.setIfInBounds_toArray, List.set_cons_zero, List.set_cons_succ, cQ, dr]
  rfl
 refine nH (by kernel_rfl) ?_
 try clear dy dz fC fD
 have gA:=alq bf.out
 have dy:=(av bf.out 0).trans rfl
 have dz:=(av bf.out 1).trans rfl
 have jo:=alq bV.out
 have fC:=(av bV.out 0).trans rfl
 have fD:=(av bV.out 1).trans rfl
 go_wp2_with fail
 clear gA dy dz
 clear jo fC fD
 refine (gB.calls k _ _ l1 l1 _ (Kd.bI eP.out (by repeat (first|exact HB.out|apply bL|apply bX|apply bH))) dW am8.out).mono ?_
 rintro e gM ⟨ve1,rfl,RW,aA⟩
 have gQ:=k0 (by repeat (first|exact HB.out|apply bL|apply bX|apply bH))
 have alK:ak (Kd.R (Kd.int .i64) 2 gM w.heap.size (fun k_=>eM.heap.size≤k_∧k_ < gM.heap.size) _ l1):=⟨Kd.bx (Kd.d_ (Kd.lZ RW) (by have h_:=gQ.out.size;(try simp at h_);(try simp);omega)) (fun k_ b8=>⟨by have h_:=b8.2.1;(try simp at h_);omega,b8.2.2.1⟩)⟩
 clear gQ RW
 have ep:=k0 (Kd.ct (aR dB.out) aA)
 have eY:=k0 (Kd.jt (aS dN.out) aA)
 have fB:=k0 (Kd.ct (aR dP.out) aA)
 have fQ:=k0 (Kd.ct (aR dM.out) aA)
 have cU:ak (gM.heap[w.heap.size]?=some (sO a0 A0 l0 c0 24)):=⟨alg (by (first|exact heap_alloc_new _ _|(refine alo ?_ _;exact heap_alloc_new _ _)|((with_reducible repeat (first|refine cm ?_ _|refine bJ ?_|refine alo ?_ _));exact bf.out))) aA⟩
 have eJ:ak (gM.heap[w5.heap.size]?=some (sO a0 lV l0 mh 31)):=⟨alg (by (first|exact heap_alloc_new _ _|(refine alo ?_ _;exact heap_alloc_new _ _)|((with_reducible repeat (first|refine cm ?_ _|refine bJ ?_|refine alo ?_ _));exact bV.out))) aA⟩
 have nw:ak (eM.heap.size+0≤gM.heap.size):=⟨by have h_:=aA.size;(try simp at h_);omega⟩
 have cT:=k0 (aG (by repeat (first|exact HB.out|apply bL|apply bX|apply bH)) aA)
 clear HB dB dN dP dM bf bV aA
 have HB:=cT
 clear cT
 have dB:=ep
 clear ep
 have dN:=eY
 clear eY
 have dP:=fB
 clear fB
 have dM:=fQ
 clear fQ
 have bf:=cU
 clear cU
 have bV:=eJ
 clear eJ
 obtain ⟨Ae1,ce1,Y7⟩:=Kd.fh alK.out
 subst Y7
 try clear dy dz fC fD
 have gA:=alq bf.out
 have dy:=(av bf.out 0).trans rfl
 have dz:=(av bf.out 1).trans rfl
 have jo:=alq bV.out
 have fC:=(av bV.out 0).trans rfl
 have fD:=(av bV.out 1).trans rfl
 go_wp2_with fail
 clear gA dy dz
 clear jo fC fD
 refine (fN.calls k _ _ l1 _ _ l1 true _ (Kd.bn (aR dP.out)).2.2 (Kd.bn dP.out).2.1 (Kd.bn (aR alK.out)).2.2 (Kd.bn alK.out).2.1 Hw.out).mono ?_
 rintro e alU ⟨rfl,oC⟩
 have aA:=oC.below
 clear oC
 have ep:=k0 (Kd.ct (aR dB.out) aA)
 have eY:=k0 (Kd.jt (aS dN.out) aA)
 have fB:=k0 (Kd.ct (aR dP.out) aA)
 have fQ:=k0 (Kd.ct (aR dM.out) aA)
 have iR:=k0 (Kd.ct (aR alK.out) aA)
 have cU:ak (alU.heap[w.heap.size]?=some (sO a0 A0 l0 c0 24)):=⟨alg (by (first|exact heap_alloc_new _ _|(refine alo ?_ _;exact heap_alloc_new _ _)|((with_reducible repeat (first|refine cm ?_ _|refine bJ ?_|refine alo ?_ _));exact bf.out))) aA⟩
 have eJ:ak (alU.heap[w5.heap.size]?=some (sO a0 lV l0 mh 31)):=⟨alg (by (first|exact heap_alloc_new _ _|(refine alo ?_ _;exact heap_alloc_new _ _)|((with_reducible repeat (first|refine cm ?_ _|refine bJ ?_|refine alo ?_ _));exact bV.out))) aA⟩
 have al3:ak (gM.heap.size+0≤alU.heap.size):=⟨by have h_:=aA.size;(try simp at h_);omega⟩
 have cT:=k0 (aG (by repeat (first|exact HB.out|apply bL|apply bX|apply bH)) aA)
 clear HB dB dN dP dM alK bf bV aA
 have HB:=cT
 clear cT
 have dB:=ep
 clear ep
 have dN:=eY
 clear eY
 have dP:=fB
 clear fB
 have dM:=fQ
 clear fQ
 have alK:=iR
 clear iR
 have bf:=cU
 clear cU
 have bV:=eJ
 clear eJ
 try clear dy dz fC fD
 have gA:=alq bf.out
 have dy:=(av bf.out 0).trans rfl
 have dz:=(av bf.out 1).trans rfl
 have jo:=alq bV.out
 have fC:=(av bV.out 0).trans rfl
 have fD:=(av bV.out 1).trans rfl
 go_wp2_with fail
 clear gA dy dz
 clear jo fC fD
 refine (UA.calls k (fun k_=>w4.heap.size≤k_∧k_ < w5.heap.size) a0 _ _ _ l0 1 m0 y0 w _ (by repeat (first|exact HB.out|apply bL|apply bX|apply bH)) (aS dN.out) Hs.out).mono ?_
 rintro e z7 ⟨rfl,jl,wg,amS⟩
 have b8:=amS
 have yf:ak (Kd.S (Kd.slice 2 (Kd.int .i64)) 28 z7 w.heap.size (fun k_=>w4.heap.size≤k_∧k_ < w5.heap.size) (.slice lV l0.length mh) y0):=⟨jl⟩
 clear dN jl amS
 have ep:=k0 (Kd.uM (aR dB.out) b8 (fun k_ dm cS=>by have alE:=dm;have fP:=cS;have oW:=mN.out;have oX:=ny.out;have oY:=nA.out;have oZ:=nB.out;have o4:=nC.out;have o5:=nD.out;have o6:=nE.out;have o7:=nF.out;have o8:=mO.out;have oR:=nu.out;have oT:=nv.out;have oU:=nw.out;have oV:=al3.out;omega))
 have fB:=k0 (Kd.uM (aR dP.out) b8 (fun k_ dm cS=>by have alE:=dm;have fP:=cS;have oW:=mN.out;have oX:=ny.out;have oY:=nA.out;have oZ:=nB.out;have o4:=nC.out;have o5:=nD.out;have o6:=nE.out;have o7:=nF.out;have o8:=mO.out;have oR:=nu.out;have oT:=nv.out;have oU:=nw.out;have oV:=al3.out;omega))
 have fQ:=k0 (Kd.uM (aR dM.out) b8 (fun k_ dm cS=>by have alE:=dm;have fP:=cS;have oW:=mN.out;have oX:=ny.out;have oY:=nA.out;have oZ:=nB.out;have o4:=nC.out;have o5:=nD.out;have o6:=nE.out;have o7:=nF.out;have o8:=mO.out;have oR:=nu.out;have oT:=nv.out;have oU:=nw.out;have oV:=al3.out;omega))
 have iR:=k0 (Kd.uM (aR alK.out) b8 (fun k_ dm cS=>by have alE:=dm;have fP:=cS;have oW:=mN.out;have oX:=ny.out;have oY:=nA.out;have oZ:=nB.out;have o4:=nC.out;have o5:=nD.out;have o6:=nE.out;have o7:=nF.out;have o8:=mO.out;have oR:=nu.out;have oT:=nv.out;have oU:=nw.out;have oV:=al3.out;omega))
 have cU:ak (z7.heap[w.heap.size]?=some (sO a0 A0 l0 c0 24)):=⟨AL (by (first|exact heap_alloc_new _ _|(refine alo ?_ _;exact heap_alloc_new _ _)|((with_reducible repeat (first|refine cm ?_ _|refine bJ ?_|refine alo ?_ _));exact bf.out))) b8 (fun cS=>by have fP:=cS;have oW:=mN.out;have oX:=ny.out;have oY:=nA.out;have oZ:=nB.out;have o4:=nC.out;have o5:=nD.out;have o6:=nE.out;have o7:=nF.out;have o8:=mO.out;have oR:=nu.out;have oT:=nv.out;have oU:=nw.out;have oV:=al3.out;omega)⟩
 have eJ:ak (z7.heap[w5.heap.size]?=some (sO a0 lV l0 mh 31)):=⟨AL (by (first|exact heap_alloc_new _ _|(refine alo ?_ _;exact heap_alloc_new _ _)|((with_reducible repeat (first|refine cm ?_ _|refine bJ ?_|refine alo ?_ _));exact bV.out))) b8 (fun cS=>by have fP:=cS;have oW:=mN.out;have oX:=ny.out;have oY:=nA.out;have oZ:=nB.out;have o4:=nC.out;have o5:=nD.out;have o6:=nE.out;have o7:=nF.out;have o8:=mO.out;have oR:=nu.out;have oT:=nv.out;have oU:=nw.out;have oV:=al3.out;omega)⟩
 have amj:ak (alU.heap.size+0≤z7.heap.size):=⟨by have h_:=b8.1;(try simp at h_);omega⟩
 have cT:=k0 wg
 clear HB dB dP dM alK bf bV b8 wg
 have HB:=cT
 clear cT
 have dB:=ep
 clear ep
 have dP:=fB
 clear fB
 have dM:=fQ
 clear fQ
 have alK:=iR
 clear iR
 have bf:=cU
 clear cU
 have bV:=eJ
 clear eJ
 have dN:=yf
 clear yf
 have agh:ak (y0.length=l0.length):=⟨(Kd.ck dN.out).1.symm⟩
 try clear dy dz fC fD
 have gA:=alq bf.out
 have dy:=(av bf.out 0).trans rfl
 have dz:=(av bf.out 1).trans rfl
 have jo:=alq bV.out
 have fC:=(av bV.out 0).trans rfl
 have fD:=(av bV.out 1).trans rfl
 go_wp2_with fail
 clear gA dy dz
 clear jo fC fD
 refine (iy.calls k (fun k_=>some k_=(.slice MJ l1.length OH:Value).ownBlock) _ l1 m0 m1 y1 w _ (by repeat (first|exact HB.out|apply bL|apply bX|apply bH)) (Kd.ami rfl (aR dP.out)) Ht.out).mono ?_
 rintro e oN ⟨rfl,jl,wg,amS⟩
 have b8:Kept _ oN (fun k_=>w5.heap.size+1≤k_∧k_ < w6.heap.size):=amS.mono (fun k_ b8=>dP.out.1 k_ b8.symm)
 have yf:ak (Kd.R (Kd.int .i64) 2 oN w.heap.size (fun k_=>w5.heap.size+1≤k_∧k_ < w6.heap.size) (.slice MJ l1.length OH) y1):=⟨Kd.bx (Kd.ami rfl jl) (fun k_ b8=>dP.out.1 k_ b8.symm)⟩
 clear dP jl amS
 have ep:=k0 (Kd.uM (aR dB.out) b8 (fun k_ dm cS=>by have alE:=dm;have fP:=cS;have oW:=mN.out;have oX:=ny.out;have oY:=nA.out;have oZ:=nB.out;have o4:=nC.out;have o5:=nD.out;have o6:=nE.out;have o7:=nF.out;have o8:=mO.out;have oR:=nu.out;have oT:=nv.out;have oU:=nw.out;have oV:=al3.out;have uE:=amj.out;omega))
 have eY:=k0 (Kd.N9 (aS dN.out) b8 (fun k_ dm cS=>by have alE:=dm;have fP:=cS;have oW:=mN.out;have oX:=ny.out;have oY:=nA.out;have oZ:=nB.out;have o4:=nC.out;have o5:=nD.out;have o6:=nE.out;have o7:=nF.out;have o8:=mO.out;have oR:=nu.out;have oT:=nv.out;have oU:=nw.out;have oV:=al3.out;have uE:=amj.out;omega))
 have fQ:=k0 (Kd.uM (aR dM.out) b8 (fun k_ dm cS=>by have alE:=dm;have fP:=cS;have oW:=mN.out;have oX:=ny.out;have oY:=nA.out;have oZ:=nB.out;have o4:=nC.out;have o5:=nD.out;have o6:=nE.out;have o7:=nF.out;have o8:=mO.out;have oR:=nu.out;have oT:=nv.out;have oU:=nw.out;have oV:=al3.out;have uE:=amj.out;omega))
 have iR:=k0 (Kd.uM (aR alK.out) b8 (fun k_ dm cS=>by have alE:=dm;have fP:=cS;have oW:=mN.out;have oX:=ny.out;have oY:=nA.out;have oZ:=nB.out;have o4:=nC.out;have o5:=nD.out;have o6:=nE.out;have o7:=nF.out;have o8:=mO.out;have oR:=nu.out;have oT:=nv.out;have oU:=nw.out;have oV:=al3.out;have uE:=amj.out;omega))
 have cU:ak (oN.heap[w.heap.size]?=some (sO a0 A0 l0 c0 24)):=⟨AL (by (first|exact heap_alloc_new _ _|(refine alo ?_ _;exact heap_alloc_new _ _)|((with_reducible repeat (first|refine cm ?_ _|refine bJ ?_|refine alo ?_ _));exact bf.out))) b8 (fun cS=>by have fP:=cS;have oW:=mN.out;have oX:=ny.out;have oY:=nA.out;have oZ:=nB.out;have o4:=nC.out;have o5:=nD.out;have o6:=nE.out;have o7:=nF.out;have o8:=mO.out;have oR:=nu.out;have oT:=nv.out;have oU:=nw.out;have oV:=al3.out;have uE:=amj.out;omega)⟩
 have eJ:ak (oN.heap[w5.heap.size]?=some (sO a0 lV l0 mh 31)):=⟨AL (by (first|exact heap_alloc_new _ _|(refine alo ?_ _;exact heap_alloc_new _ _)|((with_reducible repeat (first|refine cm ?_ _|refine bJ ?_|refine alo ?_ _));exact bV.out))) b8 (fun cS=>by have fP:=cS;have oW:=mN.out;have oX:=ny.out;have oY:=nA.out;have oZ:=nB.out;have o4:=nC.out;have o5:=nD.out;have o6:=nE.out;have o7:=nF.out;have o8:=mO.out;have oR:=nu.out;have oT:=nv.out;have oU:=nw.out;have oV:=al3.out;have uE:=amj.out;omega)⟩
 have anb:ak (z7.heap.size+0≤oN.heap.size):=⟨by have h_:=b8.1;(try simp at h_);omega⟩
 have cT:=k0 wg
 clear HB dB dN dM alK bf bV b8 wg
 have HB:=cT
 clear cT
 have dB:=ep
 clear ep
 have dN:=eY
 clear eY
 have dM:=fQ
 clear fQ
 have alK:=iR
 clear iR
 have bf:=cU
 clear cU
 have bV:=eJ
 clear eJ
 have dP:=yf
 clear yf
 have agi:ak (y1.length=l1.length):=⟨(Kd.bn dP.out).1.symm⟩
 try clear dy dz fC fD
 have gA:=alq bf.out
 have dy:=(av bf.out 0).trans rfl
 have dz:=(av bf.out 1).trans rfl
 have jo:=alq bV.out
 have fC:=(av bV.out 0).trans rfl
 have fD:=(av bV.out 1).trans rfl
 go_wp2_with fail
 clear gA dy dz
 clear jo fC fD
 refine (fN.calls k _ _ ic _ _ ic true _ (Kd.bn (aR dM.out)).2.2 (Kd.bn dM.out).2.1 (Kd.bn (aR dB.out)).2.2 (Kd.bn dB.out).2.1 BN.out).mono ?_
 rintro e Em ⟨rfl,oC⟩
 have aA:=oC.below
 clear oC
 have ep:=k0 (Kd.ct (aR dB.out) aA)
 have eY:=k0 (Kd.jt (aS dN.out) aA)
 have fB:=k0 (Kd.ct (aR dP.out) aA)
 have fQ:=k0 (Kd.ct (aR dM.out) aA)
 have iR:=k0 (Kd.ct (aR alK.out) aA)
 have cU:ak (Em.heap[w.heap.size]?=some (sO a0 A0 l0 c0 24)):=⟨alg (by (first|exact heap_alloc_new _ _|(refine alo ?_ _;exact heap_alloc_new _ _)|((with_reducible repeat (first|refine cm ?_ _|refine bJ ?_|refine alo ?_ _));exact bf.out))) aA⟩
 have eJ:ak (Em.heap[w5.heap.size]?=some (sO a0 lV l0 mh 31)):=⟨alg (by (first|exact heap_alloc_new _ _|(refine alo ?_ _;exact heap_alloc_new _ _)|((with_reducible repeat (first|refine cm ?_ _|refine bJ ?_|refine alo ?_ _));exact bV.out))) aA⟩
 have AG:ak (oN.heap.size+0≤Em.heap.size):=⟨by have h_:=aA.size;(try simp at h_);omega⟩
 have cT:=k0 (aG (by repeat (first|exact HB.out|apply bL|apply bX|apply bH)) aA)
 clear HB dB dN dP dM alK bf bV aA
 have HB:=cT
 clear cT
 have dB:=ep
 clear ep
 have dN:=eY
 clear eY
 have dP:=fB
 clear fB
 have dM:=fQ
 clear fQ
 have alK:=iR
 clear iR
 have bf:=cU
 clear cU
 have bV:=eJ
 clear eJ
 try clear dy dz fC fD
 have gA:=alq bf.out
 have dy:=(av bf.out 0).trans rfl
 have dz:=(av bf.out 1).trans rfl
 have jo:=alq bV.out
 have fC:=(av bV.out 0).trans rfl
 have fD:=(av bV.out 1).trans rfl
 go_wp2_with fail
 clear gA dy dz
 clear jo fC fD
 refine (iy.calls k (fun k_=>some k_=(.slice MI ic.length OG:Value).ownBlock) _ ic 1 rN sM w _ (by repeat (first|exact HB.out|apply bL|apply bX|apply bH)) (Kd.ami rfl (aR dM.out)) Hu.out).mono ?_
 rintro e nc ⟨rfl,jl,wg,amS⟩
 have b8:Kept _ nc (fun k_=>w6.heap.size≤k_∧k_ < w7.heap.size):=amS.mono (fun k_ b8=>dM.out.1 k_ b8.symm)
 have yf:ak (Kd.R (Kd.int .i64) 2 nc w.heap.size (fun k_=>w6.heap.size≤k_∧k_ < w7.heap.size) (.slice MI ic.length OG) sM):=⟨Kd.bx (Kd.ami rfl jl) (fun k_ b8=>dM.out.1 k_ b8.symm)⟩
 clear dM jl amS
 have ep:=k0 (Kd.uM (aR dB.out) b8 (fun k_ dm cS=>by have alE:=dm;have fP:=cS;have oW:=mN.out;have oX:=ny.out;have oY:=nA.out;have oZ:=nB.out;have o4:=nC.out;have o5:=nD.out;have o6:=nE.out;have o7:=nF.out;have o8:=mO.out;have oR:=nu.out;have oT:=nv.out;have oU:=nw.out;have oV:=al3.out;have uE:=amj.out;have anA:=anb.out;have Ew:=AG.out;omega))
 have eY:=k0 (Kd.N9 (aS dN.out) b8 (fun k_ dm cS=>by have alE:=dm;have fP:=cS;have oW:=mN.out;have oX:=ny.out;have oY:=nA.out;have oZ:=nB.out;have o4:=nC.out;have o5:=nD.out;have o6:=nE.out;have o7:=nF.out;have o8:=mO.out;have oR:=nu.out;have oT:=nv.out;have oU:=nw.out;have oV:=al3.out;have uE:=amj.out;have anA:=anb.out;have Ew:=AG.out;omega))
 have fB:=k0 (Kd.uM (aR dP.out) b8 (fun k_ dm cS=>by have alE:=dm;have fP:=cS;have oW:=mN.out;have oX:=ny.out;have oY:=nA.out;have oZ:=nB.out;have o4:=nC.out;have o5:=nD.out;have o6:=nE.out;have o7:=nF.out;have o8:=mO.out;have oR:=nu.out;have oT:=nv.out;have oU:=nw.out;have oV:=al3.out;have uE:=amj.out;have anA:=anb.out;have Ew:=AG.out;omega))
 have iR:=k0 (Kd.uM (aR alK.out) b8 (fun k_ dm cS=>by have alE:=dm;have fP:=cS;have oW:=mN.out;have oX:=ny.out;have oY:=nA.out;have oZ:=nB.out;have o4:=nC.out;have o5:=nD.out;have o6:=nE.out;have o7:=nF.out;have o8:=mO.out;have oR:=nu.out;have oT:=nv.out;have oU:=nw.out;have oV:=al3.out;have uE:=amj.out;have anA:=anb.out;have Ew:=AG.out;omega))
 have cU:ak (nc.heap[w.heap.size]?=some (sO a0 A0 l0 c0 24)):=⟨AL (by (first|exact heap_alloc_new _ _|(refine alo ?_ _;exact heap_alloc_new _ _)|((with_reducible repeat (first|refine cm ?_ _|refine bJ ?_|refine alo ?_ _));exact bf.out))) b8 (fun cS=>by have fP:=cS;have oW:=mN.out;have oX:=ny.out;have oY:=nA.out;have oZ:=nB.out;have o4:=nC.out;have o5:=nD.out;have o6:=nE.out;have o7:=nF.out;have o8:=mO.out;have oR:=nu.out;have oT:=nv.out;have oU:=nw.out;have oV:=al3.out;have uE:=amj.out;have anA:=anb.out;have Ew:=AG.out;omega)⟩
 have eJ:ak (nc.heap[w5.heap.size]?=some (sO a0 lV l0 mh 31)):=⟨AL (by (first|exact heap_alloc_new _ _|(refine alo ?_ _;exact heap_alloc_new _ _)|((with_reducible repeat (first|refine cm ?_ _|refine bJ ?_|refine alo ?_ _));exact bV.out))) b8 (fun cS=>by have fP:=cS;have oW:=mN.out;have oX:=ny.out;have oY:=nA.out;have oZ:=nB.out;have o4:=nC.out;have o5:=nD.out;have o6:=nE.out;have o7:=nF.out;have o8:=mO.out;have oR:=nu.out;have oT:=nv.out;have oU:=nw.out;have oV:=al3.out;have uE:=amj.out;have anA:=anb.out;have Ew:=AG.out;omega)⟩
 have agk:ak (Em.heap.size+0≤nc.heap.size):=⟨by have h_:=b8.1;(try simp at h_);omega⟩
 have cT:=k0 wg
 clear HB dB dN dP alK bf bV b8 wg
 have HB:=cT
 clear cT
 have dB:=ep
 clear ep
 have dN:=eY
 clear eY
 have dP:=fB
 clear fB
 have alK:=iR
 clear iR
 have bf:=cU
 clear cU
 have bV:=eJ
 clear eJ
 have dM:=yf
 clear yf
 have Aq:ak (sM.length=ic.length):=⟨(Kd.bn dM.out).1.symm⟩
 try clear dy dz fC fD
 have gA:=alq bf.out
 have dy:=(av bf.out 0).trans rfl
 have dz:=(av bf.out 1).trans rfl
 have jo:=alq bV.out
 have fC:=(av bV.out 0).trans rfl
 have fD:=(av bV.out 1).trans rfl
 go_wp2_with fail
 clear gA dy dz
 clear jo fC fD
 rw [← Aq.out]
 refine (jK.calls k _ _ sM 1 rN _ (Kd.bn (aR dM.out)).2.2 (by rw [Aq.out];exact (Kd.bn dM.out).2.1) ED.out).mono ?_
 rintro e oO ⟨rfl,oC⟩
 have aA:=oC.below
 clear oC
 have ep:=k0 (Kd.ct (aR dB.out) aA)
 have eY:=k0 (Kd.jt (aS dN.out) aA)
 have fB:=k0 (Kd.ct (aR dP.out) aA)
 have fQ:=k0 (Kd.ct (aR dM.out) aA)
 have iR:=k0 (Kd.ct (aR alK.out) aA)
 have cU:ak (oO.heap[w.heap.size]?=some (sO a0 A0 l0 c0 24)):=⟨alg (by (first|exact heap_alloc_new _ _|(refine alo ?_ _;exact heap_alloc_new _ _)|((with_reducible repeat (first|refine cm ?_ _|refine bJ ?_|refine alo ?_ _));exact bf.out))) aA⟩
 have eJ:ak (oO.heap[w5.heap.size]?=some (sO a0 lV l0 mh 31)):=⟨alg (by (first|exact heap_alloc_new _ _|(refine alo ?_ _;exact heap_alloc_new _ _)|((with_reducible repeat (first|refine cm ?_ _|refine bJ ?_|refine alo ?_ _));exact bV.out))) aA⟩
 have agl:ak (nc.heap.size+0≤oO.heap.size):=⟨by have h_:=aA.size;(try simp at h_);omega⟩
 have cT:=k0 (aG (by repeat (first|exact HB.out|apply bL|apply bX|apply bH)) aA)
 clear HB dB dN dP dM alK bf bV aA
 have HB:=cT
 clear cT
 have dB:=ep
 clear ep
 have dN:=eY
 clear eY
 have dP:=fB
 clear fB
 have dM:=fQ
 clear fQ
 have alK:=iR
 clear iR
 have bf:=cU
 clear cU
 have bV:=eJ
 clear eJ
 try rw [Aq.out]
 try clear dy dz fC fD
 have gA:=alq bf.out
 have dy:=(av bf.out 0).trans rfl
 have dz:=(av bf.out 1).trans rfl
 have jo:=alq bV.out
 have fC:=(av bV.out 0).trans rfl
 have fD:=(av bV.out 1).trans rfl
 go_wp2_with fail
 clear gA dy dz
 clear jo fC fD
 refine (qj.calls k a0 _ _ l0 a0 l0 _ (Kd.bI eA.out (by repeat (first|exact HB.out|apply bL|apply bX|apply bH))) hc0 Ah.out).mono ?_
 rintro e vo ⟨vu0,rfl,RZ,aA⟩
 have gQ:=k0 (by repeat (first|exact HB.out|apply bL|apply bX|apply bH))
 have yH:ak (Kd.S (Kd.slice 2 (Kd.int .i64)) 28 vo w.heap.size (fun k_=>oO.heap.size≤k_∧k_ < vo.heap.size) _ l0):=⟨Kd.iM (Kd.pU (Kd.AA RZ) (by have h_:=gQ.out.size;(try simp at h_);(try simp);omega)) (fun k_ b8=>⟨by have h_:=b8.2.1;(try simp at h_);omega,b8.2.2.1⟩)⟩
 clear gQ RZ
 have ep:=k0 (Kd.ct (aR dB.out) aA)
 have eY:=k0 (Kd.jt (aS dN.out) aA)
 have fB:=k0 (Kd.ct (aR dP.out) aA)
 have fQ:=k0 (Kd.ct (aR dM.out) aA)
 have iR:=k0 (Kd.ct (aR alK.out) aA)
 have cU:ak (vo.heap[w.heap.size]?=some (sO a0 A0 l0 c0 24)):=⟨alg (by (first|exact heap_alloc_new _ _|(refine alo ?_ _;exact heap_alloc_new _ _)|((with_reducible repeat (first|refine cm ?_ _|refine bJ ?_|refine alo ?_ _));exact bf.out))) aA⟩
 have eJ:ak (vo.heap[w5.heap.size]?=some (sO a0 lV l0 mh 31)):=⟨alg (by (first|exact heap_alloc_new _ _|(refine alo ?_ _;exact heap_alloc_new _ _)|((with_reducible repeat (first|refine cm ?_ _|refine bJ ?_|refine alo ?_ _));exact bV.out))) aA⟩
 have agm:ak (oO.heap.size+0≤vo.heap.size):=⟨by have h_:=aA.size;(try simp at h_);omega⟩
 have cT:=k0 (aG (by repeat (first|exact HB.out|apply bL|apply bX|apply bH)) aA)
 clear HB dB dN dP dM alK bf bV aA
 have HB:=cT
 clear cT
 have dB:=ep
 clear ep
 have dN:=eY
 clear eY
 have dP:=fB
 clear fB
 have dM:=fQ
 clear fQ
 have alK:=iR
 clear iR
 have bf:=cU
 clear cU
 have bV:=eJ
 clear eJ
 obtain ⟨Au0,cu0,Zu⟩:=Kd.qx yH.out
 subst Zu
 try clear dy dz fC fD
 have gA:=alq bf.out
 have dy:=(av bf.out 0).trans rfl
 have dz:=(av bf.out 1).trans rfl
 have jo:=alq bV.out
 have fC:=(av bV.out 0).trans rfl
 have fD:=(av bV.out 1).trans rfl
 go_wp2_with fail
 clear gA dy dz
 clear jo fC fD
 refine (gB.calls k _ _ l1 l1 _ (Kd.bI eP.out (by repeat (first|exact HB.out|apply bL|apply bX|apply bH))) dW am8.out).mono ?_
 rintro e pO ⟨vu1,rfl,R1,aA⟩
 have gQ:=k0 (by repeat (first|exact HB.out|apply bL|apply bX|apply bH))
 have EZ:ak (Kd.R (Kd.int .i64) 2 pO w.heap.size (fun k_=>vo.heap.size≤k_∧k_ < pO.heap.size) _ l1):=⟨Kd.bx (Kd.d_ (Kd.lZ R1) (by have h_:=gQ.out.size;(try simp at h_);(try simp);omega)) (fun k_ b8=>⟨by have h_:=b8.2.1;(try simp at h_);omega,b8.2.2.1⟩)⟩
 clear gQ R1
 have ep:=k0 (Kd.ct (aR dB.out) aA)
 have eY:=k0 (Kd.jt (aS dN.out) aA)
 have fB:=k0 (Kd.ct (aR dP.out) aA)
 have fQ:=k0 (Kd.ct (aR dM.out) aA)
 have iR:=k0 (Kd.ct (aR alK.out) aA)
 have S3:=k0 (Kd.jt (aS yH.out) aA)
 have cU:ak (pO.heap[w.heap.size]?=some (sO a0 A0 l0 c0 24)):=⟨alg (by (first|exact heap_alloc_new _ _|(refine alo ?_ _;exact heap_alloc_new _ _)|((with_reducible repeat (first|refine cm ?_ _|refine bJ ?_|refine alo ?_ _));exact bf.out))) aA⟩
 have eJ:ak (pO.heap[w5.heap.size]?=some (sO a0 lV l0 mh 31)):=⟨alg (by (first|exact heap_alloc_new _ _|(refine alo ?_ _;exact heap_alloc_new _ _)|((with_reducible repeat (first|refine cm ?_ _|refine bJ ?_|refine alo ?_ _));exact bV.out))) aA⟩
 have agn:ak (vo.heap.size+0≤pO.heap.size):=⟨by have h_:=aA.size;(try simp at h_);omega⟩
 have cT:=k0 (aG (by repeat (first|exact HB.out|apply bL|apply bX|apply bH)) aA)
 clear HB dB dN dP dM alK yH bf bV aA
 have HB:=cT
 clear cT
 have dB:=ep
 clear ep
 have dN:=eY
 clear eY
 have dP:=fB
 clear fB
 have dM:=fQ
 clear fQ
 have alK:=iR
 clear iR
 have yH:=S3
 clear S3
 have bf:=cU
 clear cU
 have bV:=eJ
 clear eJ
 obtain ⟨Au1,cu1,Zv⟩:=Kd.fh EZ.out
 subst Zv
 try clear dy dz fC fD
 have gA:=alq bf.out
 have dy:=(av bf.out 0).trans rfl
 have dz:=(av bf.out 1).trans rfl
 have jo:=alq bV.out
 have fC:=(av bV.out 0).trans rfl
 have fD:=(av bV.out 1).trans rfl
 go_wp2_with fail
 clear gA dy dz
 clear jo fC fD
 refine (og.Fp k a0 _ _ l0 _ _ l1 a2 ic sH _ (Kd.ck (aS yH.out)).2.2 (Kd.ck yH.out).2.1 (Kd.bn (aR EZ.out)).2.2 (Kd.bn EZ.out).2.1 FI.out).mono ?_
 rintro e yw ⟨akF,rfl,RR,aA⟩
 have gQ:=k0 (by repeat (first|exact HB.out|apply bL|apply bX|apply bH))
 have vH:ak (Kd.R (Kd.int .i64) 2 yw w.heap.size (fun k_=>pO.heap.size≤k_∧k_ < yw.heap.size) _ ic):=⟨Kd.bx (Kd.d_ (Kd.lZ RR) (by have h_:=gQ.out.size;(try simp at h_);(try simp);omega)) (fun k_ b8=>⟨by have h_:=b8.2.1;(try simp at h_);omega,b8.2.2.1⟩)⟩
 clear gQ RR
 clear yH
 clear EZ
 have ep:=k0 (Kd.ct (aR dB.out) aA)
 have eY:=k0 (Kd.jt (aS dN.out) aA)
 have fB:=k0 (Kd.ct (aR dP.out) aA)
 have fQ:=k0 (Kd.ct (aR dM.out) aA)
 have iR:=k0 (Kd.ct (aR alK.out) aA)
 have cU:ak (yw.heap[w.heap.size]?=some (sO a0 A0 l0 c0 24)):=⟨alg (by (first|exact heap_alloc_new _ _|(refine alo ?_ _;exact heap_alloc_new _ _)|((with_reducible repeat (first|refine cm ?_ _|refine bJ ?_|refine alo ?_ _));exact bf.out))) aA⟩
 have eJ:ak (yw.heap[w5.heap.size]?=some (sO a0 lV l0 mh 31)):=⟨alg (by (first|exact heap_alloc_new _ _|(refine alo ?_ _;exact heap_alloc_new _ _)|((with_reducible repeat (first|refine cm ?_ _|refine bJ ?_|refine alo ?_ _));exact bV.out))) aA⟩
 have ago:ak (pO.heap.size+0≤yw.heap.size):=⟨by have h_:=aA.size;(try simp at h_);omega⟩
 have cT:=k0 (aG (by repeat (first|exact HB.out|apply bL|apply bX|apply bH)) aA)
 clear HB dB dN dP dM alK bf bV aA
 have HB:=cT
 clear cT
 have dB:=ep
 clear ep
 have dN:=eY
 clear eY
 have dP:=fB
 clear fB
 have dM:=fQ
 clear fQ
 have alK:=iR
 clear iR
 have bf:=cU
 clear cU
 have bV:=eJ
 clear eJ
 obtain ⟨afC,agJ,Y1⟩:=Kd.fh vH.out
 subst Y1
 try clear dy dz fC fD
 have gA:=alq bf.out
 have dy:=(av bf.out 0).trans rfl
 have dz:=(av bf.out 1).trans rfl
 have jo:=alq bV.out
 have fC:=(av bV.out 0).trans rfl
 have fD:=(av bV.out 1).trans rfl
 go_wp2_with fail
 clear gA dy dz
 clear jo fC fD
 refine (fN.calls k _ _ ic _ _ ic true _ (Kd.bn (aR vH.out)).2.2 (Kd.bn vH.out).2.1 (Kd.bn (aR dB.out)).2.2 (Kd.bn dB.out).2.1 BN.out).mono ?_
 rintro e G4 ⟨rfl,oC⟩
 have aA:=oC.below
 clear oC
 have ep:=k0 (Kd.ct (aR dB.out) aA)
 have eY:=k0 (Kd.jt (aS dN.out) aA)
 have fB:=k0 (Kd.ct (aR dP.out) aA)
 have fQ:=k0 (Kd.ct (aR dM.out) aA)
 have iR:=k0 (Kd.ct (aR alK.out) aA)
 have D0:=k0 (Kd.ct (aR vH.out) aA)
 have cU:ak (G4.heap[w.heap.size]?=some (sO a0 A0 l0 c0 24)):=⟨alg (by (first|exact heap_alloc_new _ _|(refine alo ?_ _;exact heap_alloc_new _ _)|((with_reducible repeat (first|refine cm ?_ _|refine bJ ?_|refine alo ?_ _));exact bf.out))) aA⟩
 have eJ:ak (G4.heap[w5.heap.size]?=some (sO a0 lV l0 mh 31)):=⟨alg (by (first|exact heap_alloc_new _ _|(refine alo ?_ _;exact heap_alloc_new _ _)|((with_reducible repeat (first|refine cm ?_ _|refine bJ ?_|refine alo ?_ _));exact bV.out))) aA⟩
 have agp:ak (yw.heap.size+0≤G4.heap.size):=⟨by have h_:=aA.size;(try simp at h_);omega⟩
 have cT:=k0 (aG (by repeat (first|exact HB.out|apply bL|apply bX|apply bH)) aA)
 clear HB dB dN dP dM alK vH bf bV aA
 have HB:=cT
 clear cT
 have dB:=ep
 clear ep
 have dN:=eY
 clear eY
 have dP:=fB
 clear fB
 have dM:=fQ
 clear fQ
 have alK:=iR
 clear iR
 have vH:=D0
 clear D0
 have bf:=cU
 clear cU
 have bV:=eJ
 clear eJ
 try clear dy dz fC fD
 have gA:=alq bf.out
 have dy:=(av bf.out 0).trans rfl
 have dz:=(av bf.out 1).trans rfl
 have jo:=alq bV.out
 have fC:=(av bV.out 0).trans rfl
 have fD:=(av bV.out 1).trans rfl
 go_wp2_with fail
 clear gA dy dz
 clear jo fC fD
 rw [← Aq.out]
 refine (jK.calls k _ _ sM 1 rN _ (Kd.bn (aR dM.out)).2.2 (by rw [Aq.out];exact (Kd.bn dM.out).2.1) ED.out).mono ?_
 rintro e vp ⟨rfl,oC⟩
 have aA:=oC.below
 clear oC
 have ep:=k0 (Kd.ct (aR dB.out) aA)
 have eY:=k0 (Kd.jt (aS dN.out) aA)
 have fB:=k0 (Kd.ct (aR dP.out) aA)
 have fQ:=k0 (Kd.ct (aR dM.out) aA)
 have iR:=k0 (Kd.ct (aR alK.out) aA)
 have D0:=k0 (Kd.ct (aR vH.out) aA)
 have cU:ak (vp.heap[w.heap.size]?=some (sO a0 A0 l0 c0 24)):=⟨alg (by (first|exact heap_alloc_new _ _|(refine alo ?_ _;exact heap_alloc_new _ _)|((with_reducible repeat (first|refine cm ?_ _|refine bJ ?_|refine alo ?_ _));exact bf.out))) aA⟩
 have eJ:ak (vp.heap[w5.heap.size]?=some (sO a0 lV l0 mh 31)):=⟨alg (by (first|exact heap_alloc_new _ _|(refine alo ?_ _;exact heap_alloc_new _ _)|((with_reducible repeat (first|refine cm ?_ _|refine bJ ?_|refine alo ?_ _));exact bV.out))) aA⟩
 have agq:ak (G4.heap.size+0≤vp.heap.size):=⟨by have h_:=aA.size;(try simp at h_);omega⟩
 have cT:=k0 (aG (by repeat (first|exact HB.out|apply bL|apply bX|apply bH)) aA)
 clear HB dB dN dP dM alK vH bf bV aA
 have HB:=cT
 clear cT
 have dB:=ep
 clear ep
 have dN:=eY
 clear eY
 have dP:=fB
 clear fB
 have dM:=fQ
 clear fQ
 have alK:=iR
 clear iR
 have vH:=D0
 clear D0
 have bf:=cU
 clear cU
 have bV:=eJ
 clear eJ
 try rw [Aq.out]
 try clear dy dz fC fD
 have gA:=alq bf.out
 have dy:=(av bf.out 0).trans rfl
 have dz:=(av bf.out 1).trans rfl
 have jo:=alq bV.out
 have fC:=(av bV.out 0).trans rfl
 have fD:=(av bV.out 1).trans rfl
 go_wp2
 go_ret
 exact ⟨by first|rfl|(simp;done)|(simp [*];done),HB.out⟩
def amz.Pure:Prop:=∀ (a0:Int) (l0:List (List Int)) (l1:List Int) (a2:Int),(Lit.int .i64 a0).wf=true→l0.length≤maxLen→(∀ x ∈ l0,x.length≤maxLen∧∀ n ∈ x,(Lit.int .i64 n).wf=true)→l1.length≤maxLen→(∀ n ∈ l1,(Lit.int .i64 n).wf=true)→(Lit.int .i64 a2).wf=true→l1.length≤1048576→(∃ (k:Nat) (z0:Int),z0 < 0∧qi.f k a0 l0 1048576=some z0)∨(∃ (k:Nat) (z0:Int) (ic:List Int) (sH:Int) (m0:Int) (y0:List (List Int)) (m1:Int) (y1:List Int) (rN:Int) (sM:List Int),0≤z0∧0≤m1∧0≤rN∧qj.f k a0 l0=some (a0,l0)∧sP.f k a0 l0 a0 l0=some true∧gB.f k l1=some l1∧fN.f k l1 l1=some true∧qi.f k a0 l0 1048576=some z0∧o_.f k a0 l0 l1 a2=some (ic,sH)∧og.f k a0 l0 l1 a2=some (ic,sH)∧fN.f k ic ic=some true∧nj.f k l0 1=some (m0,y0)∧iy.f k l1 m0=some (m1,y1)∧iy.f k ic 1=some (rN,sM)∧jK.f k sM 1=some rN)
theorem amz.calls (P : amz.Pure) (a0 : Int) (A0 : Option Addr) (c0 : Nat) (l0 : List (List Int)) (A1 : Option Addr) (c1 : Nat) (l1 : List Int) (a2 : Int) (w : World) (cI : Kd.C (Kd.slice 2 (Kd.int .i64)) w A0 l0.length l0) (hc0 : l0.length ≤ c0) (cE : Kd.C (Kd.int .i64) w A1 l1.length l1) (dW : l1.length ≤ c1)  (Me : (Lit.int .i64 a0).wf = true) (KJ : l0.length ≤ maxLen) (Mf : (∀ x ∈ l0, x.length ≤ maxLen ∧ ∀ n ∈ x, (Lit.int .i64 n).wf = true)) (zA : l1.length ≤ maxLen) (w1 : (∀ n ∈ l1, (Lit.int .i64 n).wf = true)) (w2 : (Lit.int .i64 a2).wf = true) :
  Calls Try.prog 4 #[.agg #[.int .i64 a0,.slice A0 l0.length c0],.slice A1 l1.length c1,.int .i64 a2] w fun e w'=>e=.returned (.bool true)∧Below w.heap.size w w':=by
 by_cases qG:1048576 < l1.length
 ·exact amz.aeD a0 A0 c0 l0 A1 c1 l1 a2 w cI hc0 cE dW  qG
 replace qG:l1.length≤1048576:=by omega
 rcases P a0 l0 l1 a2 Me KJ Mf zA w1 w2 qG with ⟨k,z0,uh,yC⟩|⟨k,z0,ic,sH,m0,y0,m1,y1,rN,sM,tW,hlm,RD,Ah,Hv,am8,Hw,BO,FS,FI,BN,Hs,Ht,Hu,ED⟩
 ·exact amz.aeE a0 A0 c0 l0 A1 c1 l1 a2 w cI hc0 cE dW qG k z0 uh yC
 ·exact amz.WZ k a0 A0 c0 l0 A1 c1 l1 a2 w cI hc0 cE dW z0 tW ic sH m0 y0 m1 y1 rN sM hlm RD qG Ah Hv am8 Hw BO FS FI BN Hs Ht Hu ED
end Go.Proofs.Ytoebojnhchocaaa.B
/- Set with little white space, by a program. -/
