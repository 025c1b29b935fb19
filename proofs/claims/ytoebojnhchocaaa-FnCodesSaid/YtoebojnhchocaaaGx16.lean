/- The functions that one law reaches, each as a Lean function, and that Go's call comes to what it says. Condition of each: that the Lean function answers (is not none). -/
import Derived.Test.YtoebojnhchocaaaGx0
import Derived.Test.YtoebojnhchocaaaGx15
namespace Go.Proofs.Ytoebojnhchocaaa.G
open Go.RowKit Go.Proofs.cx.fq Go.Proofs.cx.jX Go.Proofs.cx.lu
attribute [local go_sem] max2_int min2_int max_two min_two max_three min_three max_four min_four   -- for this text's walks alone
set_option linter.unusedVariables false
set_option linter.unusedSimpArgs false
/-! ### F51: function 51 -/
def eM.l0 : Nat → List (List Int) → Int → Int → List Int → Int → Option (Int × (List (List Int)) × Int)
 | 0,_,_,_,_,_=>none
 | k+1,rK,rL,gH,D1,aqd=>if gH < rL then (if 0≤gH then (if gH < (rK.length:Int) then (if 0 < ((ai rK gH).length:Int) then (if 0≤(rd (ai rK gH) 0) then (if (rd (ai rK gH) 0) < (D1.length:Int) then (if 1 < ((ai rK gH).length:Int) then (if 0≤(rd (ai rK gH) 1) then (if (rd (ai rK gH) 1) < (D1.length:Int) then ((some ((ai rK gH).set (0:Int).toNat (rd D1 (rd (ai rK gH) 0)):List Int)).bind fun gN=>(eM.l0 k ((rK.set (gH:Int).toNat gN).set (gH:Int).toNat (gN.set (1:Int).toNat (rd D1 (rd (ai rK gH) 1)))) rL (wrap64 (gH+1)) D1 aqd)) else (none)) else (none)) else (none)) else (none)) else (none)) else (none)) else (none)) else (none)) else (some (aqd,rK,0))
def eM.f (k:Nat) (au:Int) (ah:List (List Int)) (l1:List Int):Option (Int × (List (List Int)) × Int):=(aoB.f k au ah l1 au ah).bind fun t104=>(if t104=0 then ((fT.f k au ah).bind fun aoV=>(eM.l0 k aoV.2 (aoV.2.length:Int) 0 l1 aoV.1)) else (some (0,([]:List (List Int)),t104)))
theorem eM.cC : ∀ k, (∀ y0 y1 y2 y3 y4, ag (eM.l0 k y0 y1 y2 y3 y4) (eM.l0 (k + 1) y0 y1 y2 y3 y4))
 | 0=>fun _ _ _ _ _ r h=>by simp [eM.l0] at h
 | k+1=>by
  have a_:=eM.cC k
  ·intro y0 y1 y2 y3 y4
   unfold eM.l0
   repeat' first
    | (with_reducible first|exact a_ _ _ _ _ _|exact fT.mono _ _ _|exact aoB.mono _ _ _ _ _ _|exact ag.refl _|exact ag.none _|refine ag.ite ?_ ?_|refine ag.bind ?_ (fun _=>?_))
    | exact a_ _ _ _ _ _|exact fT.mono _ _ _|exact aoB.mono _ _ _ _ _ _|exact ag.none _|refine ag.ite ?_ ?_|refine ag.bind ?_ (fun _=>?_)
theorem eM.mono:∀ a0 a1 a2 k,ag (eM.f k a0 a1 a2) (eM.f (k+1) a0 a1 a2):=by
 intro a0 a1 a2 k
 have a_:=eM.cC k
 unfold eM.f
 repeat' first
  | (with_reducible first|exact a_ _ _ _ _ _|exact fT.mono _ _ _|exact aoB.mono _ _ _ _ _ _|exact ag.refl _|exact ag.none _|refine ag.ite ?_ ?_|refine ag.bind ?_ (fun _=>?_))
  | exact a_ _ _ _ _ _|exact fT.mono _ _ _|exact aoB.mono _ _ _ _ _ _|exact ag.none _|refine ag.ite ?_ ?_|refine ag.bind ?_ (fun _=>?_)
def eM.T8:Bool × List (List Nat × List Nat):=(true,[([],[]),([],[]),([],[]),([],[]),([3],[3]),([4],[4]),([2,5],[2,5]),([6],[6]),([],[]),([],[]),([9],[9]),([10],[10]),([8,11],[8,11]),([12],[12]),([0,0,2,3,4,5,6,7,11,13],[0]),([14,7,0,2,3,4,5,6,7,11,13],[7,14]),([1,0,1,2,3,4,5,6,7,8,9,10,11,12,13,14,15],[1]),([16,13,15,0,1,2,3,4,5,6,7,8,9,10,11,12,13,14,15],[13,16])])
def eM.B8:List Nat:=[0,0,0,0,8,24,60,124,0,0,512,1536,3840,7936,16381,32765,65535,131071]
theorem eM.LH:fh .any (opsOf Try.f51 8)=eM.T8:=by kernel_rfl
theorem eM.Ir:kN eM.T8.2 eM.B8=true:=by kernel_rfl
set_option maxHeartbeats 8000000 in
set_option maxRecDepth 100000 in
theorem eM.calls (k : Nat) (au : Int) (bJ : Option Addr) (bI : Nat) (ah : List (List Int)) (A1 : Option Addr) (c1 : Nat) (l1 : List Int) (r1 : Int) (r2 : List (List Int)) (r3 : Int) (w : World) (eS : Kd.C (Kd.slice 2 (Kd.int .i64)) w bJ ah.length ah) (eY : ah.length ≤ bI) (jK : Kd.C (Kd.int .i64) w A1 l1.length l1) (jJ : l1.length ≤ c1) (h : eM.f k au ah l1 = some (r1, r2, r3)) :
  Calls Try.prog 51 #[.agg #[.int .i64 au,.slice bJ ah.length bI],.slice A1 l1.length c1] w fun e w'=>∃ iw:Value,e=.returned (.tuple #[.agg #[.int .i64 r1,iw],.int .i64 r3])∧Kd.S (Kd.slice 2 (Kd.int .i64)) 28 w' w.heap.size (fun _=>True) iw r2∧Below w.heap.size w w':=by
 have jS:=Try.underlying31
 have dP:=k0 eS
 have f_:=k0 eY
 clear eS eY
 have iQ:=k0 jK
 have td:=k0 jJ
 clear jK jJ
 have HB:=k0 (Below.refl w.heap.size w)
 have H:((aoB.f k au ah l1 au ah).bind fun t104=>(if t104=0 then ((fT.f k au ah).bind fun aoV=>(eM.l0 k aoV.2 (aoV.2.length:Int) 0 l1 aoV.1)) else (some (0,([]:List (List Int)),t104))))=some (r1,r2,r3):=h
 clear h
 replace H:=Option.bind_eq_some_iff.mp H
 obtain ⟨t104,fS,H⟩:=H
 replace H:(if t104=0 then ((fT.f k au ah).bind fun aoV=>(eM.l0 k aoV.2 (aoV.2.length:Int) 0 l1 aoV.1)) else (some (0,([]:List (List Int)),t104)))=some (r1,r2,r3):=H
 have A3:=k0 fS
 clear fS
 by_cases c4:t104=0
 case neg =>
  rw [if_neg c4] at H
  have gT:(t104 == 0)=false:=beq_eq_false_iff_ne.mpr c4
  have tE:(t104 != 0)=true:=bne_iff_ne.mpr c4
  simp only [Option.some.injEq,Prod.mk.injEq] at H
  obtain ⟨rfl,rfl,rfl⟩:=H
  go_enter Try.func51,Try.ntmps51
  go_wp2_with (first|((with_reducible refine bN (N:=2) rfl ?_);refine cE 2 #[.int .i64 au,.slice bJ ah.length bI] 31 ?_;intro aW hg w44 aG hb;have aa:=k0 (aG);have cu:=gW hg (anG bl);have anQ:=cu;replace HB:=k0 (anH bl hb);clear hb aG hg)|((with_reducible refine bN (N:=3) rfl ?_);refine cE 3 #[.slice A1 l1.length c1] 28 ?_;intro dJ hg w45 aG hb;have bp:=k0 (aG);have mI:=gW hg (anG bl);have gQ:=mI;replace HB:=k0 (anH bl hb);have iB:=nL hg aa;have aof:=nG iB;replace aa:=kB aa hb;clear hb aG hg)|((with_reducible refine bN (N:=4) rfl ?_);refine cE 4 #[.int .i64 0,.slice none 0 0] 31 ?_;intro qc hg w46 aG hb;have av:=kB aa hb;have ax:=kB bp hb;have ay:=k0 (anH bl hb);have anC:=k0 (aG);have aD:=k0 ((by rw [hg];exact (anG bl):w.heap.size≤qc));have anE:=k0 ((by rw [hg];exact (anG bl):w.heap.size≤qc));have anP:=nL hg aa;have bL:=nG anP;have b6:=nL hg bp;have cM:=nG b6;clear aa;clear bp;clear HB;have aa:=av;have bp:=ax;have HB:=ay;have an1:=anC;have M6:=aD;have M1:=anE;have rT:=anP;have vK:=bL;have tu:=b6;have xh:=cM;clear av ax ay anC aD anE anP bL b6 cM;clear hb aG hg;have alj:=iB.z;have ame:=aof.z;have alk:=rT.z;have amf:=vK.z;have aiJ:=aX aa;have aiK:=aY aa;have aj':=bF aa 0;have aj_:=bF aa 1)|((with_reducible refine bS (f:=125) rfl ?_);refine gC (some 12) Try.func125 #[.agg #[.int .i64 au,.slice bJ ah.length bI],.func (.func 126) #[] #[.pointer (some ⟨dJ,0,none⟩),.pointer (some ⟨aW,0,none⟩)]] ?_;(with_reducible refine (aoB.calls k au _ _ ah A1 c1 l1 au bJ bI ah t104 _ ?aA ?anD ?cP ?dB ?u_ ?LA ?LB ?LC A3.z).mono ?_);(case aA=>exact aC (Kd.dU dP.z HB.z));(case anD=>exact f_.z);(case cP=>exact aC (Kd.dU iQ.z HB.z));(case dB=>exact td.z);(case u_=>exact aC (Kd.dU dP.z HB.z));(case LA=>exact f_.z);(case LB=>exact by exact bk);(case LC=>exact by exact bk);rintro e w50 ⟨rfl,hb⟩;refine ⟨_,rfl,?_⟩;have av:=kB aa hb;have ax:=kB bp hb;have ay:=kB an1 hb;have anC:=k0 (anH bl hb);clear aa;clear bp;clear an1;clear HB;have aa:=av;have bp:=ax;have an1:=ay;have HB:=anC;clear av ax ay anC;have abX:=xh.z;have ab':=tu.z;have aaV:=aX an1;have aaW:=aY an1;have aby:=bF an1 0;have abz:=bF an1 1))
  refine bodyPost_ret (apm rfl _ _ qc 31 #[.int .i64 0,.slice none 0 0] (0,0) _ rfl (by (with_reducible repeat (first|refine anF ?_ _|refine aH ?_|refine aI ?_ _));refine anV (cs:=#[.int .i64 0,.slice none 0 0]) ?_ 1 _ rfl;(with_reducible repeat (first|refine anF ?_ _|refine aH ?_|refine aI ?_ _));refine anV (cs:=#[.int .i64 0,.slice none 0 0]) ?_ 0 _ rfl;exact bk) Try.underlying31 rfl (by kernel_rfl)) rfl ?_
  exact ⟨_,eR,by first|exact Kd.rX _ _ _ _ _|exact Kd.rV _ _ _ _ _|exact Kd.rY _ _ _ _ _|exact Kd.rW _ _ _ _ _|exact Kd.ny _ _ _ _ _,bl⟩
 rw [if_pos c4] at H
 have gT:(t104 == 0)=true:=beq_iff_eq.mpr c4
 have tE:(t104 != 0)=false:=bne_eq_false_iff_eq.mpr c4
 clear c4
 replace H:=Option.bind_eq_some_iff.mp H
 obtain ⟨⟨t105,t106⟩,aox,H⟩:=H
 replace H:(eM.l0 k t106 (t106.length:Int) 0 l1 t105)=some (r1,r2,r3):=H
 have A5:=k0 aox
 clear aox
 have H':=k0 H
 clear H
 go_enter Try.func51,Try.ntmps51
 go_wp2_with (first|((with_reducible refine bN (N:=2) rfl ?_);refine cE 2 #[.int .i64 au,.slice bJ ah.length bI] 31 ?_;intro aW hg w6 aG hb;have aa:=k0 (aG);have cu:=gW hg (anG bl);have anQ:=cu;replace HB:=k0 (anH bl hb);clear hb aG hg)|((with_reducible refine bN (N:=3) rfl ?_);refine cE 3 #[.slice A1 l1.length c1] 28 ?_;intro dJ hg w7 aG hb;have bp:=k0 (aG);have mI:=gW hg (anG bl);have gQ:=mI;replace HB:=k0 (anH bl hb);have iB:=nL hg aa;have aof:=nG iB;replace aa:=kB aa hb;clear hb aG hg)|((with_reducible refine bN (N:=4) rfl ?_);refine cE 4 #[.int .i64 0,.slice none 0 0] 31 ?_;intro qc hg w8 aG hb;have av:=kB aa hb;have ax:=kB bp hb;have ay:=k0 (anH bl hb);have anC:=k0 (aG);have aD:=k0 ((by rw [hg];exact (anG bl):w.heap.size≤qc));have anE:=k0 ((by rw [hg];exact (anG bl):w.heap.size≤qc));have anP:=nL hg aa;have bL:=nG anP;have b6:=nL hg bp;have cM:=nG b6;clear aa;clear bp;clear HB;have aa:=av;have bp:=ax;have HB:=ay;have an1:=anC;have M6:=aD;have M1:=anE;have rT:=anP;have vK:=bL;have tu:=b6;have xh:=cM;clear av ax ay anC aD anE anP bL b6 cM;clear hb aG hg;have ab1:=iB.z;have acf:=aof.z;have JZ:=rT.z;have J3:=vK.z;have Fc:=aX aa;have Fe:=aY aa;have Fi:=bF aa 0;have Fj:=bF aa 1)|((with_reducible refine bS (f:=125) rfl ?_);refine gC (some 12) Try.func125 #[.agg #[.int .i64 au,.slice bJ ah.length bI],.func (.func 126) #[] #[.pointer (some ⟨dJ,0,none⟩),.pointer (some ⟨aW,0,none⟩)]] ?_;(with_reducible refine (aoB.calls k au _ _ ah A1 c1 l1 au bJ bI ah t104 _ ?aA ?anD ?cP ?dB ?u_ ?LA ?LB ?LC A3.z).mono ?_);(case aA=>exact aC (Kd.dU dP.z HB.z));(case anD=>exact f_.z);(case cP=>exact aC (Kd.dU iQ.z HB.z));(case dB=>exact td.z);(case u_=>exact aC (Kd.dU dP.z HB.z));(case LA=>exact f_.z);(case LB=>exact by exact bk);(case LC=>exact by exact bk);rintro e ao0 ⟨rfl,hb⟩;refine ⟨_,rfl,?_⟩;have av:=kB aa hb;have ax:=kB bp hb;have ay:=kB an1 hb;have anC:=k0 (anH bl hb);clear aa;clear bp;clear an1;clear HB;have aa:=av;have bp:=ax;have an1:=ay;have HB:=anC;clear av ax ay anC;have JA:=aX aa;have JB:=aY aa;have JP:=bF aa 0;have JQ:=bF aa 1)|((with_reducible refine bS (f:=128) rfl ?_);refine gC (some 18) Try.func128 #[.agg #[.int .i64 au,.slice bJ ah.length bI]] ?_;(with_reducible refine (fT.calls k au _ _ ah t105 t106 _ ?aA ?anD A5.z).mono ?_);(case aA=>exact aC (Kd.dU dP.z HB.z));(case anD=>exact f_.z);rintro e Gp ⟨v107,rfl,aq,hb⟩;refine ⟨_,rfl,?_⟩;have av:=k0 (Kd.gD (Kd.WK aq (aB bp.z)) (anG bl));have ax:=kB aa hb;have ay:=kB bp hb;have anC:=kB an1 hb;have aD:=k0 (anH bl hb);clear aa;clear bp;clear an1;clear HB;have kC:=av;have aa:=ax;have bp:=ay;have an1:=anC;have HB:=aD;clear av ax ay anC aD;)|((with_reducible refine bN (N:=7) rfl ?_);refine cE 7 #[.int .i64 0,.slice none 0 0] 31 ?_;intro I9 hg apE aG hb;have av:=k0 (Kd.kn (aS kC.z) hb);have ax:=kB aa hb;have ay:=kB bp hb;have anC:=kB an1 hb;have aD:=k0 (anH bl hb);have anE:=k0 (aG);have anP:=k0 ((by rw [hg];exact (anG bl):w.heap.size≤I9));have bL:=k0 ((by rw [hg];exact (anG bl):w.heap.size≤I9));have b6:=nL hg aa;have cM:=nG b6;have fe:=nL hg bp;have gp:=nG fe;have gB:=nL hg an1;have fk:=nG gB;clear kC;clear aa;clear bp;clear an1;clear HB;have kC:=av;have aa:=ax;have bp:=ay;have an1:=anC;have HB:=aD;have ou:=anE;have agf:=anP;have agb:=bL;have Ez:=b6;have NP:=cM;have EB:=fe;have NQ:=gp;have EC:=gB;have NR:=fk;clear av ax ay anC aD anE anP bL b6 cM fe gp gB fk;clear hb aG hg;have Rp:=NP.z;have RJ:=Ez.z;have Fu:=NQ.z;have Fv:=EB.z;have J0:=NR.z;have J4:=EC.z;have CL:=aX ou;have CM:=aY ou;have CT:=bF ou 0;have CU:=bF ou 1;obtain ⟨oP,nC,pg⟩:=Kd.eH kC.z;subst pg))
 go_loopg [22] k (fun kq ze w'=>∃ (fZ:List (List Int)) (dR:Int),ze=.int .i64 dR∧ak (eM.l0 kq fZ (t106.length:Int) dR l1 t105=some (r1,r2,r3))∧ak (kq≤k)∧ak (Kd.S (Kd.slice 2 (Kd.int .i64)) 28 w' w.heap.size (fun k_=>k_ ≠ dJ) (.slice oP t106.length nC) fZ)∧ak (w'.heap[aW]?=some (sO au bJ ah bI 31))∧ak (w'.heap[dJ]?=some (.cells #[(.slice A1 l1.length c1)] 28 (0,0)))∧ak (w'.heap[qc]?=some (.cells #[.int .i64 0,(.slice none 0 0)] 31 (0,0)))∧ak (w'.heap[I9]?=some (sO t105 oP t106 nC 31))∧ak (Below w.heap.size w w'))
 case atStart=>exact ⟨(t106),(0),rs,H',⟨Nat.le_refl _⟩,⟨aS (Kd.anW (gS 1 (.slice oP t106.length nC) (gS 0 (.int .i64 t105) (tS kC ou))) (fun _ hk=>hk.1.2))⟩,⟨by (with_reducible repeat (first|refine anF ?_ _|refine aH ?_|refine aI ?_ _));refine anU ?_ Ez.z _;(with_reducible repeat (first|refine anF ?_ _|refine aH ?_|refine aI ?_ _));refine anU ?_ Ez.z _;exact bk⟩,⟨by (with_reducible repeat (first|refine anF ?_ _|refine aH ?_|refine aI ?_ _));refine anU ?_ EB.z _;(with_reducible repeat (first|refine anF ?_ _|refine aH ?_|refine aI ?_ _));refine anU ?_ EB.z _;exact bk⟩,⟨by (with_reducible repeat (first|refine anF ?_ _|refine aH ?_|refine aI ?_ _));refine anU ?_ EC.z _;(with_reducible repeat (first|refine anF ?_ _|refine aH ?_|refine aI ?_ _));refine anU ?_ EC.z _;exact bk⟩,⟨by (with_reducible repeat (first|refine anF ?_ _|refine aH ?_|refine aI ?_ _));refine anV (cs:=#[.int .i64 t105,.slice none 0 0]) ?_ 1 _ rfl;(with_reducible repeat (first|refine anF ?_ _|refine aH ?_|refine aI ?_ _));refine anV (cs:=#[.int .i64 0,.slice none 0 0]) ?_ 0 _ rfl;exact bk⟩,⟨bl⟩⟩
 case round =>
  clear H'
  obtain ⟨fZ,dR,rfl,HA,bH,qA,aa,bp,an1,ou,HB⟩:=hrel
  have lT:=(Kd.anY qA.z).1
  rw [lT] at qA
  (try simp only [lT])
  (try simp only [lT] at aa)
  (try simp only [lT] at bp)
  (try simp only [lT] at an1)
  (try simp only [lT] at ou)
  cases gk with
  | zero=>exact absurd HA.z (by simp [eM.l0])
  | succ k1 =>
   have H:=HA.z
   clear HA
   simp only [eM.l0] at H
   by_cases c21:dR < (t106.length:Int)
   case neg =>
    rw [if_neg c21] at H
    have Ag:decide (dR < (t106.length:Int))=false:=decide_eq_false c21
    (try simp only [lT] at Ag)
    clear c21
    simp only [Option.some.injEq,Prod.mk.injEq] at H
    obtain ⟨rfl,rfl,rfl⟩:=H
    have RC:=NP.z
    have RU:=Ez.z
    have RD:=NQ.z
    have RV:=EB.z
    have alg:=NR.z
    have amb:=EC.z
    have aiF:=aX ou
    have aiG:=aY ou
    have aj6:=bF ou 0
    have aj7:=bF ou 1
    have RE:=vK.z
    have RW:=rT.z
    have ali:=xh.z
    have amd:=tu.z
    have aiH:=aX an1
    have aiI:=aY an1
    have aj8:=bF an1 0
    have aj9:=bF an1 1
    go_wp2
    refine bodyPost_ret (apm rfl _ _ qc 31 #[.int .i64 t105,.slice oP fZ.length nC] (0,0) _ rfl (by (with_reducible repeat (first|refine anF ?_ _|refine aH ?_|refine aI ?_ _));refine anV (cs:=#[.int .i64 t105,.slice none 0 0]) ?_ 1 _ rfl;(with_reducible repeat (first|refine anF ?_ _|refine aH ?_|refine aI ?_ _));refine anV (cs:=#[.int .i64 0,.slice none 0 0]) ?_ 0 _ rfl;exact bk) Try.underlying31 rfl (by kernel_rfl)) rfl ?_
    exact ⟨_,eR,by (with_reducible repeat (first|apply Kd.di|apply Kd.dm|apply Kd.cS));exact Kd.anW (gS 1 (.slice oP fZ.length nC) (gS 0 (.int .i64 t105) (tS qA an1))) (fun _ hk=>trivial),bl⟩
   rw [if_pos c21] at H
   have Ag:=decide_eq_true c21
   (try simp only [lT] at Ag)
   clear c21
   replace H:=iS H;obtain ⟨c22,H⟩:=H
   have EV:=decide_eq_true c22
   clear c22
   replace H:=iS H;obtain ⟨c23,H⟩:=H
   have Ah:=decide_eq_true c23
   (try simp only [lT] at Ah)
   clear c23
   replace H:=iS H;obtain ⟨c24,H⟩:=H
   have apN:=decide_eq_true c24
   (try simp only [lT] at apN)
   have IB:decide (0 < (ai fZ dR).length)=true:=decide_eq_true (by omega)
   (try simp only [lT] at IB)
   clear c24
   replace H:=iS H;obtain ⟨c25,H⟩:=H
   have EW:=decide_eq_true c25
   clear c25
   replace H:=iS H;obtain ⟨c26,H⟩:=H
   have IC:=decide_eq_true c26
   (try simp only [lT] at IC)
   clear c26
   replace H:=iS H;obtain ⟨c27,H⟩:=H
   have XS:=decide_eq_true c27
   (try simp only [lT] at XS)
   have XT:decide (1 < (ai fZ dR).length)=true:=decide_eq_true (by omega)
   (try simp only [lT] at XT)
   clear c27
   replace H:=iS H;obtain ⟨c28,H⟩:=H
   have XU:=decide_eq_true c28
   clear c28
   replace H:=iS H;obtain ⟨c29,H⟩:=H
   have ID:=decide_eq_true c29
   (try simp only [lT] at ID)
   clear c29
   obtain ⟨gN,pJ⟩:∃ y_:List Int,y_=((ai fZ dR).set (0:Int).toNat (rd l1 (rd (ai fZ dR) 0))):=⟨_,rfl⟩
   replace H:(eM.l0 k1 ((fZ.set (dR:Int).toNat gN).set (dR:Int).toNat (gN.set (1:Int).toNat (rd l1 (rd (ai fZ dR) 1)))) (t106.length:Int) (wrap64 (dR+1)) l1 t105)=some (r1,r2,r3):=rH pJ H
   have uk:=k0 pJ
   clear pJ
   obtain ⟨pW,pK⟩:∃ y_:List (List Int),y_=(fZ.set (dR:Int).toNat gN):=⟨_,rfl⟩
   replace H:(eM.l0 k1 (pW.set (dR:Int).toNat (gN.set (1:Int).toNat (rd l1 (rd (ai fZ dR) 1)))) (t106.length:Int) (wrap64 (dR+1)) l1 t105)=some (r1,r2,r3):=rH pK H
   have tv:=k0 pK
   clear pK
   obtain ⟨s5,sK⟩:∃ y_:List Int,y_=(gN.set (1:Int).toNat (rd l1 (rd (ai fZ dR) 1))):=⟨_,rfl⟩
   replace H:(eM.l0 k1 (pW.set (dR:Int).toNat s5) (t106.length:Int) (wrap64 (dR+1)) l1 t105)=some (r1,r2,r3):=rH sK H
   have BL:=k0 sK
   clear sK
   obtain ⟨D7,yo⟩:∃ y_:List (List Int),y_=(pW.set (dR:Int).toNat s5):=⟨_,rfl⟩
   replace H:(eM.l0 k1 D7 (t106.length:Int) (wrap64 (dR+1)) l1 t105)=some (r1,r2,r3):=rH yo H
   have EH:=k0 yo
   clear yo
   have H':=k0 H
   clear H
   have aoA:0≤(dR:Int):=oD
   have nH:dR < (fZ.length:Int):=oD
   obtain ⟨mN,Be,B2,e110,uP,wo,wk⟩:=fu (Kd.anY qA.z).2.2 dR aoA nH
   cases e110
   obtain ⟨OA,CK,CC,wj⟩:=Kd.o4 qA.z [] dR aoA (by first|exact nH|exact oD|(have e_:=(Kd.anY qA.z).1;omega))
   obtain ⟨TF,rfl,sk⟩:=CC
   have oh:=wj 0 _ rfl
   rw [Nat.add_zero,show ((Kd.slice 2 (Kd.int .i64))).sz=1 from rfl,Nat.mul_one] at oh
   replace oh:=Option.some.inj (oh.symm.trans uP)
   rw [oh] at sk
   have iL:=k0 (show Kd.R (Kd.int .i64) 2 _ _ _ _ (ai fZ dR) from sk)
   clear oh sk
   have apI:=k0 uP
   clear wj CK
   have q9:=k0 wk
   have Na:=k0 wo
   clear wk wo
   replace aoA:=eq_true aoA
   replace nH:=eq_true nH
   try go_wp2
   replace qA:=k0 (Kd.cS qA.z);replace iL:=k0 (Kd.bP iL.z);replace aa:=k0 (aH aa.z);replace bp:=k0 (aH bp.z);replace an1:=k0 (aH an1.z);replace ou:=k0 (aH ou.z);replace q9:=k0 (Kd.gO q9.z);replace apI:=k0 ((show (wr.drew).cell? _=some _ from apI.z));replace HB:=k0 (anS HB.z)
   have oL:0≤(0:Int):=(by omega)
   have oM:0 < ((ai fZ dR).length:Int):=oD
   obtain ⟨Ac,e111,oH⟩:=Kd.cm (by repeat (first|(with_reducible exact q9.z)|(with_reducible refine Kd.hJ ?_ _)|(with_reducible refine Kd.aoc ?_ _)|(with_reducible refine Kd.gO ?_)|exact q9.z)) 0 oL oM
   cases e111
   have aek:(0 < (ai fZ dR).length)=True:=eq_true (by omega)
   (try rw [show ((0:Int)).toNat=0 from rfl] at oH)
   (try rw [Addr.add_zero'] at oH)
   replace oL:=eq_true oL
   replace oM:=eq_true oM
   have yI:0≤((rd (ai fZ dR) 0):Int):=oD
   have yR:(rd (ai fZ dR) 0) < (l1.length:Int):=oD
   obtain ⟨BU,e112,Dw⟩:=Kd.cm iQ.z (rd (ai fZ dR) 0) yI yR
   have acs:=Dw
   cases e112
   replace Dw:=hbc HB Dw
   replace yI:=eq_true yI
   replace yR:=eq_true yR
   have jU:0≤(1:Int):=(by omega)
   have jV:1 < ((ai fZ dR).length:Int):=oD
   obtain ⟨rZ,e113,kG⟩:=Kd.cm (by repeat (first|(with_reducible exact q9.z)|(with_reducible refine Kd.hJ ?_ _)|(with_reducible refine Kd.aoc ?_ _)|(with_reducible refine Kd.gO ?_)|exact q9.z)) 1 jU jV
   obtain rfl:Ac=rZ:=(by injection e113)
   (try simp only [show (1:Int).toNat=1 from rfl,Nat.reduceMul,Nat.reduceEqDiff,Go.Addr.add,↓reduceIte] at kG)
   have ael:(1 < (ai fZ dR).length)=True:=eq_true (by omega)
   (try rw [show ((1:Int)).toNat=1 from rfl] at kG)
   replace jU:=eq_true jU
   replace jV:=eq_true jV
   have lV:0≤((rd (ai fZ dR) 1):Int):=oD
   have lX:(rd (ai fZ dR) 1) < (l1.length:Int):=oD
   obtain ⟨xx,e114,nE⟩:=Kd.cm iQ.z (rd (ai fZ dR) 1) lV lX
   have acu:=nE
   obtain rfl:BU=xx:=(by injection e114)
   replace nE:=hbc HB nE
   replace lV:=eq_true lV
   replace lX:=eq_true lX
   have K9:0≤(0:Int):=(by omega)
   have Lt:(0:Int) < (((ai fZ dR).length:Int):Int):=oD
   have am6:(0 < (ai fZ dR).length)=True:=eq_true (by omega)
   obtain ⟨PE,tF,Aw,PA,Z1,ahq,Ng⟩:=Kd.vR iL.z (by omega)
   (first|cases Aw|(injection Aw with dH jB jA;(first|subst dH|(injection dH with dH;subst dH));subst jA;clear jB))
   (first|simp only [add_plain] at oH|skip)
   have af':=k0 PA
   have U0:=k0 Ng
   clear PA Z1 Ng
   (first|simp only [add_plain] at oH|skip)
   (first|simp only [add_plain] at kG|skip)
   obtain ⟨Kg,JL⟩:=Kd.um 0 iL.z (0:Int) K9 Lt
   (try rw [show ((0:Int)).toNat=0 from rfl] at Kg)
   (try simp only [Nat.reduceMul,Nat.zero_mul,Nat.zero_add,Nat.reduceAdd] at Kg)
   (try rw [show ((0:Int)).toNat=0 from rfl] at JL)
   (try simp only [Nat.reduceMul,Nat.zero_mul,Nat.zero_add,Nat.reduceAdd] at JL)
   replace K9:=eq_true K9
   replace Lt:=eq_true Lt
   have acn:(dR:Int) < (fZ.length:Int):=(by have h_:(dR:Int) < ((fZ.length:Int):Int):=oD;first|exact h_|(have e_:=(Kd.anY qA.z).1;omega)|simpa only [List.length_set,List.length_set] using h_)
   obtain ⟨amW,ahk,aaw,aaa,P7,R1,PV⟩:=Kd.xq qA.z [] (dR:Int) oD (by first|exact acn|(have e_:=(Kd.anY qA.z).1;omega))
   obtain ⟨ant,rfl,Cz⟩:=aaa
   have FG:=P7 0 _ rfl
   rw [Nat.add_zero,show ((Kd.slice 2 (Kd.int .i64))).sz=1 from rfl,Nat.mul_one] at FG
   replace FG:=Option.some.inj (FG.symm.trans apI.z)
   subst FG
   clear P7 aaw
   replace Cz:=(show Kd.R (Kd.int .i64) 2 _ _ _ _ (ai fZ dR) from Cz)
   have zT:=Kd.xo Cz (0:Int) (rd l1 (rd (ai fZ dR) 0))
   have HH:=k0 (uz zT.2 apI.z (xI (R1 _ (Cz.1 _ rfl)).2))
   rw [← uk.z] at zT
   have Vt:=k0 zT.1
   have apU:=PV zT.2 (fun k_ e_=>by injection e_ with e_;subst e_;exact Cz.1 _ rfl) (x':=gN) (Kd.lg zT.1)
   rw [← tv.z] at apU
   have Hy:=k0 apU
   clear zT apU PV R1
   have Gc:0≤(1:Int):=(by omega)
   have Ge:(1:Int) < (((ai fZ dR).length:Int):Int):=oD
   have am7:(1 < (ai fZ dR).length)=True:=eq_true (by omega)
   obtain ⟨Kh,JM⟩:=Kd.um 0 Vt.out (1:Int) Gc Ge
   obtain ⟨acr,Qx⟩:=Kd.um 0 iL.z (1:Int) Gc Ge
   clear acr
   (try rw [show ((1:Int)).toNat=1 from rfl] at Qx)
   (try rw [show ((1:Int)).toNat=1 from rfl] at Kh)
   (try simp only [Nat.reduceMul,Nat.zero_mul,Nat.zero_add,Nat.reduceAdd] at Kh)
   (try rw [show ((1:Int)).toNat=1 from rfl] at JM)
   (try simp only [Nat.reduceMul,Nat.zero_mul,Nat.zero_add,Nat.reduceAdd] at JM)
   replace Gc:=eq_true Gc
   replace Ge:=eq_true Ge
   have R5:(dR:Int) < (pW.length:Int):=(by have h_:(dR:Int) < ((fZ.length:Int):Int):=oD;first|exact h_|(have e_:=(Kd.anY qA.z).1;omega)|simpa only [tv.z,List.length_set] using h_)
   obtain ⟨amX,ahl,aax,aab,P8,R2,PW⟩:=Kd.xq Hy.out [] (dR:Int) oD (by first|exact R5|(have e_:=(Kd.anY Hy.out).1;omega))
   obtain ⟨anu,rfl,Ay⟩:=aab
   have FH:=P8 0 _ rfl
   rw [Nat.add_zero,show ((Kd.slice 2 (Kd.int .i64))).sz=1 from rfl,Nat.mul_one] at FH
   replace FH:=Option.some.inj (FH.symm.trans HH.z)
   subst FH
   clear P8 aax
   have QW:=ZW fZ ((dR:Int)).toNat gN (by have h_:=R5;rw [tv.z,List.length_set] at h_;have jg:0≤((dR:Int):Int):=oD;omega)
   rw [← tv.z] at QW
   rw [QW] at Ay
   replace Ay:=(show Kd.R (Kd.int .i64) 2 _ _ _ _ gN from Ay)
   have zU:=Kd.xo Ay (1:Int) (rd l1 (rd (ai fZ dR) 1))
   have VG:=k0 (uz zU.2 HH.z (xI (R2 _ (Ay.1 _ rfl)).2))
   rw [← BL.z] at zU
   have agx:=k0 zU.1
   have apV:=PW zU.2 (fun k_ e_=>by injection e_ with e_;subst e_;exact Ay.1 _ rfl) (x':=s5) (Kd.lg zU.1)
   rw [← EH.z] at apV
   have NB:=k0 apV
   clear zU apV PW R2
   refine oO (n:=18) (S:=fun w'=>w'.cell? ⟨dJ,0,none⟩=some (.slice (some BU) l1.length c1)∧w'.cell? ⟨PE,0,none⟩=some (.int .i64 (rd (ai fZ dR) 0))∧w'.cell? (BU.add ((rd (ai fZ dR) 0)).toNat)=some (.int .i64 (rd l1 (rd (ai fZ dR) 0)))∧w'.cell? ⟨PE,1,none⟩=some (.int .i64 (rd (ai fZ dR) 1))∧w'.cell? (BU.add ((rd (ai fZ dR) 1)).toNat)=some (.int .i64 (rd l1 (rd (ai fZ dR) 1)))) (ds:=[15,17]) (ba 18 0) (by kernel_rfl) rfl rfl ⟨aX bp,oH,(hbc HB acs),kG,(hbc HB acu)⟩ (fun hHeld=>?_);refine qt eM.LH eM.Ir (fun anM eE=>?_)
   generalize wr.drew=Gu at qA iL aa bp an1 ou q9 apI HB U0 Hy NB HH VG JL JM Qx oH Dw kG nE Kg Kh hHeld ⊢
   refine pu 0 (some 26) (ba 18 1) anM (h:=?_)
   refine pu 1 (some 27) (ba 18 3) anM (h:=?_)
   refine pu 3 (some 29) (ba 18 11) anM (h:=?_)
   refine pu 4 (some 30) (ba 18 27) anM (h:=?_)
   refine pu 9 (some 35) (ba 18 539) anM (h:=?_)
   refine pu 10 (some 36) (ba 18 1563) anM (h:=?_)
   refine ta 2 (some 28) (ba 18 1567) anM eE hHeld (hy:=Or.inl ⟨by rfl,by rintro w' ⟨s0,s1,s2,s3,s4⟩;go_simp;with_reducible rfl⟩) (h:=?_)
   refine ta 5 (some 31) (ba 18 1599) anM eE hHeld (hy:=Or.inl ⟨by rfl,by rintro w' ⟨s0,s1,s2,s3,s4⟩;go_simp;with_reducible rfl⟩) (h:=?_)
   refine pu 6 (some 32) (ba 18 1663) anM (h:=?_)
   refine ta 7 (some 33) (ba 18 1791) anM eE hHeld (hy:=Or.inl ⟨by rfl,by rintro w' ⟨s0,s1,s2,s3,s4⟩;go_simp;with_reducible rfl⟩) (h:=?_)
   refine ta 8 (some 34) (ba 18 2047) anM eE hHeld (hy:=Or.inl ⟨by rfl,by rintro w' ⟨s0,s1,s2,s3,s4⟩;go_simp;with_reducible rfl⟩) (h:=?_)
   refine ta 11 (some 37) (ba 18 4095) anM eE hHeld (hy:=Or.inl ⟨by rfl,by rintro w' ⟨s0,s1,s2,s3,s4⟩;go_simp;with_reducible rfl⟩) (h:=?_)
   refine pu 12 (some 38) (ba 18 8191) anM (h:=?_)
   refine ta 13 (some 39) (ba 18 16383) anM eE hHeld (hy:=Or.inl ⟨by rfl,by rintro w' ⟨s0,s1,s2,s3,s4⟩;go_simp;with_reducible rfl⟩) (h:=?_)
   refine pu 14 (some 40) (ba 18 32767) anM (h:=?_)
   refine rC (i:=15) (N:=none) (ba 18 65535) rfl rfl (j7 anM.out (by kernel_rfl)) (by decide) (fun K hK=>?_)
   refine sZ (w1:=?_) (by rfl) rfl ?_ ?_
   rotate_left;· go_simp;rfl
   refine hK.out _ _ ?_
   clear hK K
   refine pu 16 (some 41) (ba 18 131071) anM (h:=?_)
   refine rC (i:=17) (N:=none) (ba 18 262143) rfl rfl (j7 anM.out (by kernel_rfl)) (by decide) (fun K hK=>?_)
   refine sZ (w1:=?_) (by rfl) rfl ?_ ?_
   rotate_left;· go_simp;rfl
   refine hK.out _ _ ?_
   clear hK K
   refine o_ (qF anM.out (by kernel_rfl)) ?_
   try go_wp2
   (try simp only [← lT])
   go_roundg k1
   case measure=>have:=bH.z;omega
   case rel=>exact ⟨(D7),(wrap64 (dR+1)),rs,H',⟨by have:=bH.z;omega⟩,⟨by (try simp only [lT]);(with_reducible repeat (first|apply Kd.di|apply Kd.dm|apply Kd.cS));exact NB.out⟩,⟨by (try simp only [lT]);(with_reducible repeat (first|refine anF ?_ _|refine aH ?_|refine aI ?_ _));refine anU ?_ (by have h_:=Kd.iM iL.z aa.z (by decide);intro e_;exact h_ (by rw [e_];rfl)) _;(with_reducible repeat (first|refine anF ?_ _|refine aH ?_|refine aI ?_ _));refine anU ?_ (by have h_:=Kd.iM iL.z aa.z (by decide);intro e_;exact h_ (by rw [e_];rfl)) _;exact bk⟩,⟨by (try simp only [lT]);(with_reducible repeat (first|refine anF ?_ _|refine aH ?_|refine aI ?_ _));refine anU ?_ (by have h_:=Kd.iM iL.z bp.z (by decide);intro e_;exact h_ (by rw [e_];rfl)) _;(with_reducible repeat (first|refine anF ?_ _|refine aH ?_|refine aI ?_ _));refine anU ?_ (by have h_:=Kd.iM iL.z bp.z (by decide);intro e_;exact h_ (by rw [e_];rfl)) _;exact bk⟩,⟨by (try simp only [lT]);(with_reducible repeat (first|refine anF ?_ _|refine aH ?_|refine aI ?_ _));refine anU ?_ (by have h_:=Kd.iM iL.z an1.z (by decide);intro e_;exact h_ (by rw [e_];rfl)) _;(with_reducible repeat (first|refine anF ?_ _|refine aH ?_|refine aI ?_ _));refine anU ?_ (by have h_:=Kd.iM iL.z an1.z (by decide);intro e_;exact h_ (by rw [e_];rfl)) _;exact bk⟩,⟨by (try simp only [lT]);(with_reducible repeat (first|refine anF ?_ _|refine aH ?_|refine aI ?_ _));refine anU ?_ (by have h_:=Kd.iM iL.z ou.z (by decide);intro e_;exact h_ (by rw [e_];rfl)) _;(with_reducible repeat (first|refine anF ?_ _|refine aH ?_|refine aI ?_ _));refine anU ?_ (by have h_:=Kd.iM iL.z ou.z (by decide);intro e_;exact h_ (by rw [e_];rfl)) _;exact bk⟩,⟨aL HB.z⟩⟩
end Go.Proofs.Ytoebojnhchocaaa.G
/- Set with little white space, by a program. -/
