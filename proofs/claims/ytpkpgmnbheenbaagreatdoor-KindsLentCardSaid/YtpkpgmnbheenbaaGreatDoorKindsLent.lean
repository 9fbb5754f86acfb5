/- KindsLent's card: for every program and every number the call returns true, and the program stays. Conditions: the card's; errors.errorType, which the row lists, is tied to the program's text. -/
import Derived.Test.YtpkpgmnbheenbaaGreatDoorMh01
import Derived.Test.YtpkpgmnbheenbaaGreatDoorMh07
import Derived.Test.YtpkpgmnbheenbaaGreatDoorMh09
import Derived.Test.YtpkpgmnbheenbaaGreatDoorMh16
import Derived.Test.YtpkpgmnbheenbaaGreatDoorMh21
import Derived.Test.YtpkpgmnbheenbaaGreatDoorMh22
import Derived.Test.YtpkpgmnbheenbaaGreatDoorMh25
import Derived.Test.YtpkpgmnbheenbaaGreatDoorMh27
import Derived.Laws.BitsLemmas
import Derived.Deep.RegionWith
import Derived.Deep.DeepCutAuto
import Derived.Deep.CutBlock
import Derived.ChangeMaps5
import Derived.Test.YtpkpgmnbheenbaaGreatDoorTie
import Derived.Test.YtpkpgmnbheenbaaGreatDoorCards
import Derived.SevenTiedAt
namespace Go.Proofs.YtpkpgmnbheenbaaGreatDoor
open Go.RowKit
set_option linter.unusedVariables false
set_option linter.unusedSimpArgs false
set_option maxHeartbeats 8000000
set_option maxRecDepth 100000
def alT_a:ByteArray:=⟨#[102,110,32,102,40,118,105,101,119,32,98,41,32,123,32,108,101,116,32,120,32,61,32,98,59,32,125,59]⟩
def alF_a:List Fu:=[⟨⟨#[102]⟩,[⟨⟨#[98]⟩,true,false,false⟩],[.mk 1 ⟨#[120]⟩ ⟨#[]⟩ false false [.mk 2 0 ⟨#[98]⟩ 0 []] [] [] []],false,[]⟩]
def alT_b:ByteArray:=⟨#[102,110,32,102,40,118,105,101,119,32,98,41,32,123,32,98,91,48,93,32,61,32,49,59,32,125,59]⟩
def alF_b:List Fu:=[⟨⟨#[102]⟩,[⟨⟨#[98]⟩,true,false,false⟩],[.mk 4 ⟨#[98]⟩ ⟨#[]⟩ false false [.mk 1 0 ⟨#[]⟩ 0 [],.mk 1 1 ⟨#[]⟩ 0 []] [] [] []],false,[]⟩]
def alT_c:ByteArray:=⟨#[102,110,32,102,40,101,100,105,116,32,98,41,32,123,32,98,91,48,93,32,61,32,49,59,32,125,32,61,32,35,98,59]⟩
def alF_c:List Fu:=[⟨⟨#[102]⟩,[⟨⟨#[98]⟩,true,false,true⟩],[.mk 4 ⟨#[98]⟩ ⟨#[]⟩ false false [.mk 1 0 ⟨#[]⟩ 0 [],.mk 1 1 ⟨#[]⟩ 0 []] [] [] []],false,[.mk 4 0 ⟨#[98]⟩ 0 []]⟩]
def alT_d:ByteArray:=⟨#[102,110,32,102,40,41,32,123,32,115,101,97,108,59,32,125,59,32,102,110,32,103,40,41,32,123,125,59]⟩
def alF_d:List Fu:=[⟨⟨#[102]⟩,[],[.mk 12 ⟨#[]⟩ ⟨#[]⟩ false false [] [] [] []],false,[]⟩,⟨⟨#[103]⟩,[],[],false,[]⟩]
theorem alP_a:parseQ alT_a=some alF_a:=by kernel_rfl
theorem alC_a:errV (layM alF_a 1)=faultV 1 8:=by kernel_rfl
theorem alZ_a:Fu.sizes alF_a≤900:=by rw[show Fu.sizes alF_a=_ from rfl];decide
theorem alP_b:parseQ alT_b=some alF_b:=by kernel_rfl
theorem alC_b:errV (layM alF_b 1)=faultV 1 8:=by kernel_rfl
theorem alZ_b:Fu.sizes alF_b≤900:=by rw[show Fu.sizes alF_b=_ from rfl];decide
theorem alP_c:parseQ alT_c=some alF_c:=by kernel_rfl
theorem alC_c:errV (layM alF_c 1)= .nilIface:=by kernel_rfl
theorem alZ_c:Fu.sizes alF_c≤900:=by rw[show Fu.sizes alF_c=_ from rfl];decide
theorem alP_d:parseQ alT_d=some alF_d:=by kernel_rfl
theorem alC_d:errV (layM alF_d 1)=faultV 1 8:=by kernel_rfl
theorem alZ_d:Fu.sizes alF_d≤900:=by rw[show Fu.sizes alF_d=_ from rfl];decide
theorem toldT_any (s:ByteArray) (xs:List Fu) (r:Int×Int) (w:World) (hp:parseQ s=some xs) (hl:errV (layM xs 1)=errV r) (hz:Fu.sizes xs≤900) (h16:xs.length≤16) (hg:w.cell? ⟨0,0,none⟩=some (rty 30)):
  Calls Tryz.prog 36 #[.string s,.int .i64 r.1,.int .i64 r.2] w fun e w'=>e= .returned (.bool true)∧Fr Non w w':=by
 have HG:=Zh hg;clear hg;have HP:=Zh (qparsed_any s xs w hp);clear hp;have HL:=Zh hl;clear hl;go_enter Tryz.func36,Tryz.ntmps36;go_wp2_with fail;refine HP.out.mono ?_;rintro e w2 ⟨A,c,rfl,hc,hf2,hr2⟩;have F2:=Zh hf2;have S2:=Zh (lay1_any xs _ A c w2 hr2 (by unfold reach;omega) hc hz fun q hq=>hq.2);clear hf2 hr2 hc HP;go_wp2_with fail;refine S2.out.mono ?_;rintro e w3 ⟨rfl,hf3⟩;rw[HL.out];have F3:=Zh (F2.out.trans hf3);clear hf3 S2 F2;have T3:=Zh (told_any r w3 (F3.out.cell' HG.out (non _)));obtain⟨v,hv⟩:∃v,errV r=v:=⟨_,rfl⟩;rw[hv] at T3 ⊢;clear hv;go_wp2_with fail;refine T3.out.mono ?_;rintro e w4 ⟨rfl,hf4⟩;have F4:=Zh (F3.out.trans hf4);clear hf4 T3 F3;go_wp2_with fail;go_ret;exact⟨rfl,F4.out⟩
theorem alive_any (w:World) (hg:w.cell? ⟨0,0,none⟩=some (rty 30)):Calls Tryz.prog 13 #[] w fun e w'=>e= .returned (.bool true)∧Fr Non w w':=by
 have HG:=Zh hg;clear hg;have hq0:=Zh (fun w=>toldT_any alT_a alF_a (1,8) w alP_a (by rw[alC_a];rfl) alZ_a (by decide));have hq1:=Zh (fun w=>toldT_any alT_b alF_b (1,8) w alP_b (by rw[alC_b];rfl) alZ_b (by decide));have hq2:=Zh (fun w=>toldT_any alT_c alF_c (0,0) w alP_c (by rw[alC_c];rfl) alZ_c (by decide));have hq3:=Zh (fun w=>toldT_any alT_d alF_d (1,8) w alP_d (by rw[alC_d];rfl) alZ_d (by decide));simp only[alT_a,alT_b,alT_c,alT_d] at hq0 hq1 hq2 hq3;go_enter Tryz.func13,Tryz.ntmps13;go_wp2_with fail;refine(hq0.out _ HG.out).mono ?_;rintro e w1 ⟨rfl,hf⟩;have F1:=Zh hf;clear hf;go_wp2_with fail;refine(hq1.out _ (F1.out.cell' HG.out (non _))).mono ?_;rintro e w2 ⟨rfl,hf⟩;have F2:=Zh (F1.out.trans hf);clear hf;go_wp2_with fail;refine(hq2.out _ (F2.out.cell' HG.out (non _))).mono ?_;rintro e w3 ⟨rfl,hf⟩;have F3:=Zh (F2.out.trans hf);clear hf;go_wp2_with fail;refine(hq3.out _ (F3.out.cell' HG.out (non _))).mono ?_;rintro e w4 ⟨rfl,hf⟩;have F4:=Zh (F3.out.trans hf);clear hf;go_wp2_with fail;go_ret;exact⟨rfl,F4.out⟩
theorem put_L {ok:Nat→Prop} {w:World} {b1 b2 b3:Nat} (h1:w.heap[b1]? =some (.cells z2C 48 (0,0))) (h2:w.heap[b2]? =some (.cells z2C 48 (0,0)))
  (h3:w.heap[b3]? =some (.cells #[.int .u8 4,.string ⟨#[122,122]⟩,.string ⟨#[]⟩,.bool false,.bool false,.slice (some ⟨b2,0,none⟩) 2 2,.slice none 0 0,.slice none 0 0,.slice none 0 0] 42 (0,0))) (k1:ok b1) (k2:ok b2) (k3:ok b3):
  StRd ok w putL (some ⟨b1,0,none⟩) none (some ⟨b3,0,none⟩) none 2 0 1 0:=by
 refine⟨⟨Nat.le_refl _,by decide,two_zeros h1 k1⟩,⟨Nat.le_refl _,by decide,trivial⟩,⟨Nat.le_refl _,by decide,?_⟩,⟨Nat.le_refl _,by decide,trivial⟩⟩;exact⟨⟨b3,0,rfl,k3,rfl,⟨_,(Zc h3).1 0 _ rfl,rfl⟩,⟨_,(Zc h3).1 1 _ rfl,rfl⟩,⟨_,(Zc h3).1 2 _ rfl,rfl⟩,⟨_,(Zc h3).1 3 _ rfl,rfl⟩,⟨_,(Zc h3).1 4 _ rfl,rfl⟩,
  ⟨_,(Zc h3).1 5 _ rfl,some ⟨b2,0,none⟩,2,rfl,Nat.le_refl _,by decide,two_zeros h2 k2⟩,⟨_,(Zc h3).1 6 _ rfl,none,0,rfl,Nat.le_refl _,by decide,trivial⟩,⟨_,(Zc h3).1 7 _ rfl,none,0,rfl,Nat.le_refl _,by decide,trivial⟩,⟨_,(Zc h3).1 8 _ rfl,none,0,rfl,Nat.le_refl _,by decide,trivial⟩,trivial⟩,trivial⟩
theorem wrap_one (x:Int) (h0: -1≤x) (h1:x≤1000):IntKind.i64.wrap (x+1)=x+1:=by rw[IntKind.wrap_i64];omega
theorem klent_any (P:List Fu) (k:UInt8) (ok:Nat→Prop) (A:Option Addr) (c:Nat) (w:World) (hr:RdRows ok w 5 A 0 (P.map Fu.d)) (hc:P.length*96≤reach) (hpc:P.length≤c) (hok:∀q,ok q→q<w.heap.size) (hg:w.cell? ⟨0,0,none⟩=some (rty 30)):
  Calls Tryz.prog 5 #[.agg #[.slice A P.length c],.int .u8 k.toNat] w fun e w'=>e= .returned (.bool true)∧Fr Non w w':=by
 obtain⟨W1,HW1⟩:∃W1,W1=w.alloc (.cells #[.slice A P.length c] 24):=⟨_,rfl⟩;have hf1:Fr Non w W1:=by rw[HW1];exact(Zf w).alloc _
 have B1:=Zh (show W1.heap[w.heap.size]? =some (.cells #[.slice A P.length c] 24 (0,0)) by rw[HW1];exact blk_new _ _ _);have R1:=Zh (hr.fr hf1 (fun _ _=>non _) fun _ h=>h);have G1:=Zh (hf1.cell' hg (non _));have F1:=Zh hf1;have hok1:=Zh (show∀q,ok q→q<W1.heap.size from fun q hq=>by have:=hok q hq;have:=hf1.size;omega);have HOK0:=Zh hok;clear hf1 hr hg;have x1:=(Zc B1.out).1 0 _ rfl;have HC:=Zh hc;have HPC:=Zh hpc
 clear hc hpc hok;go_enter Tryz.func5,Tryz.ntmps5;go_upto_region 1 with fail;rw[←HW1];clear HW1;go_wp2_with fail;refine(large08_any P ok A c W1 R1.out HC.out hok1.out).mono ?_;rintro e w2 ⟨⟨b,rfl,hb⟩,hf2⟩;have F2:=Zh (F1.out.trans hf2);have G2:=Zh (hf2.cell' G1.out (non _));have R2:=Zh (R1.out.fr hf2 (fun _ _=>non _) fun _ h=>h);have B2:=Zh (Zb B1.out hf2 (non _));have hok2:=Zh (show∀q,ok q→q<w2.heap.size from fun q hq=>by have:=hok1.out q hq;have:=hf2.size;omega);clear hf2 F1 G1 R1 B1 x1;cases b
 case true=>
  go_wp2_with fail;refine(alive_any w2 G2.out).mono ?_;rintro e w3 ⟨rfl,hf3⟩;have F3:=Zh (F2.out.trans hf3);clear hf3;go_wp2_with fail;go_ret;exact⟨rfl,F3.out⟩
 case false=>
  obtain⟨hl30,hs9,_⟩:=hb rfl;have HS:=Zh hs9;have HL30:=Zh hl30;clear hs9 hb hl30
  have x2:=(Zc B2.out).1 0 _ rfl;go_wp2_with fail;refine(copyP_own P ok A c w2 hok2.out R2.out HPC.out HC.out).mono ?_;rintro e w3 ⟨A',c',rfl,hf3,hc',how3⟩;have hr3:=how3.rows;have F3:=Zh (F2.out.trans hf3);have G3:=Zh (hf3.cell' G2.out (non _));have R3:=Zh (R2.out.fr hf3 (fun _ _=>non _) fun _ h=>h);have B3:=Zh (Zb B2.out hf3 (non _));have hok3:=Zh (show∀q,ok q→q<w3.heap.size from fun q hq=>by have:=hok2.out q hq;have:=hf3.size;omega);have O3:=Zh hr3;have HPC':=Zh hc';clear hf3 hr3 how3 F2 G2 R2 B2 hok2 hc' x2;go_wp2_with fail;refine(lay1_any P _ A' c' w3 O3.out HC.out HPC'.out HS.out (fun q hq=>hq.2)).mono ?_;rintro e w4 ⟨rfl,hf4⟩;have F4:=Zh (F3.out.trans hf4);have G4:=Zh (hf4.cell' G3.out (non _));have R4:=Zh (R3.out.fr hf4 (fun _ _=>non _) fun _ h=>h);have B4:=Zh (Zb B3.out hf4 (non _));have hok4:=Zh (show∀q,ok q→q<w4.heap.size from fun q hq=>by have:=hok3.out q hq;have:=hf4.size;omega);clear hf4 F3 G3 R3 B3 hok3 O3;by_cases h0:(layM P 1).2=0
  ·rw[show errV (layM P 1)= .nilIface by rw[errV,if_pos h0]];have H0:=Zh h0;clear h0;obtain⟨K,hK⟩:∃K:Nat,K=k.toNat%8:=⟨_,rfl⟩;have hK8:K<8:=by omega
   have hKi:((k.toNat:Int)).tmod 8=(K:Int):=by rw[hK];exact rem_u8 k 8 (by decide) (by decide)
   have HK:=Zh hK;clear hK;obtain⟨zb,hzb⟩:∃b,b=w4.heap.size:=⟨_,rfl⟩;obtain⟨V3,HV3⟩:∃W,W=w4.alloc (.cells #[.int .u8 1,.int .u64 0,.string ⟨#[]⟩,.int .u8 0,.slice none 0 0] 48):=⟨_,rfl⟩;have hv3:Fr Non w4 V3:=by rw[HV3];exact(Zf w4).alloc _
   have hz3:V3.heap[zb]? =some (.cells #[.int .u8 1,.int .u64 0,.string ⟨#[]⟩,.int .u8 0,.slice none 0 0] 48 (0,0)):=by rw[HV3,hzb];exact blk_new _ _ _
   have hs3:V3.heap.size=w4.heap.size+1:=by rw[HV3];simp
   have Z3:=Zh hz3;have HV:=Zh hv3;have HS3:=Zh hs3;have HZB:=Zh hzb
   clear hz3 hs3 hv3 hzb;have z0:=(Zc Z3.out).1 0 _ rfl;have z1:=(Zc Z3.out).1 1 _ rfl;have z2:=(Zc Z3.out).1 2 _ rfl;have z3:=(Zc Z3.out).1 3 _ rfl;have z4:=(Zc Z3.out).1 4 _ rfl;go_upto_region 4 with fail;rw[←HZB.out,←HV3];clear HV3;have g1:Fr Non V3 (V3.alloc (.cells #[.int .u8 1,.int .u64 0,.string ⟨#[]⟩,.int .u8 0,.slice none 0 0,.int .u8 1,.int .u64 0,.string ⟨#[]⟩,.int .u8 0,.slice none 0 0] 48)):=(Zf V3).alloc _;have q10:(V3.alloc (.cells #[.int .u8 1,.int .u64 0,.string ⟨#[]⟩,.int .u8 0,.slice none 0 0,.int .u8 1,.int .u64 0,.string ⟨#[]⟩,.int .u8 0,.slice none 0 0] 48)).cell? ⟨zb,0,none⟩=some (.int .u8 1):=g1.cell' z0 (non _);have q11:(V3.alloc (.cells #[.int .u8 1,.int .u64 0,.string ⟨#[]⟩,.int .u8 0,.slice none 0 0,.int .u8 1,.int .u64 0,.string ⟨#[]⟩,.int .u8 0,.slice none 0 0] 48)).cell? ⟨zb,1,none⟩=some (.int .u64 0):=g1.cell' z1 (non _);have q12:(V3.alloc (.cells #[.int .u8 1,.int .u64 0,.string ⟨#[]⟩,.int .u8 0,.slice none 0 0,.int .u8 1,.int .u64 0,.string ⟨#[]⟩,.int .u8 0,.slice none 0 0] 48)).cell? ⟨zb,2,none⟩=some (.string ⟨#[]⟩):=g1.cell' z2 (non _);have q13:(V3.alloc (.cells #[.int .u8 1,.int .u64 0,.string ⟨#[]⟩,.int .u8 0,.slice none 0 0,.int .u8 1,.int .u64 0,.string ⟨#[]⟩,.int .u8 0,.slice none 0 0] 48)).cell? ⟨zb,3,none⟩=some (.int .u8 0):=g1.cell' z3 (non _);have q14:(V3.alloc (.cells #[.int .u8 1,.int .u64 0,.string ⟨#[]⟩,.int .u8 0,.slice none 0 0,.int .u8 1,.int .u64 0,.string ⟨#[]⟩,.int .u8 0,.slice none 0 0] 48)).cell? ⟨zb,4,none⟩=some (.slice none 0 0):=g1.cell' z4 (non _);clear g1;obtain⟨V4,HV4⟩:∃W,W=(((V3.alloc (.cells #[.int .u8 1,.int .u64 0,.string ⟨#[]⟩,.int .u8 0,.slice none 0 0,.int .u8 1,.int .u64 0,.string ⟨#[]⟩,.int .u8 0,.slice none 0 0] 48)).alloc (.cells #[.int .u8 1,.int .u64 0,.string ⟨#[]⟩,.int .u8 0,.slice none 0 0,.int .u8 1,.int .u64 0,.string ⟨#[]⟩,.int .u8 0,.slice none 0 0] 48)).alloc (.cells #[.int .u8 4,.string ⟨#[122,122]⟩,.string ⟨#[]⟩,.bool false,.bool false,.slice (some ⟨V3.heap.size+1,0,none⟩) 2 2,.slice none 0 0,.slice none 0 0,.slice none 0 0] 42)):=⟨_,rfl⟩;obtain⟨eb,heb⟩:∃b,b=V3.heap.size+1+1+1:=⟨_,rfl⟩;obtain⟨W5,HW5⟩:∃W,W=(((V3.alloc (.cells #[.int .u8 1,.int .u64 0,.string ⟨#[]⟩,.int .u8 0,.slice none 0 0,.int .u8 1,.int .u64 0,.string ⟨#[]⟩,.int .u8 0,.slice none 0 0] 48)).alloc (.cells #[.int .u8 1,.int .u64 0,.string ⟨#[]⟩,.int .u8 0,.slice none 0 0,.int .u8 1,.int .u64 0,.string ⟨#[]⟩,.int .u8 0,.slice none 0 0] 48)).alloc (.cells #[.int .u8 4,.string ⟨#[122,122]⟩,.string ⟨#[]⟩,.bool false,.bool false,.slice (some ⟨V3.heap.size+1,0,none⟩) 2 2,.slice none 0 0,.slice none 0 0,.slice none 0 0] 42)).alloc (.cells #[.int .u8 8,.int .i64 K,.int .u8 8,.string ⟨#[122,122]⟩,.string ⟨#[63]⟩,.bool false,.bool false,.slice (some ⟨V3.heap.size,0,none⟩) 2 2,.slice none 0 0,.slice (some ⟨V3.heap.size+1+1,0,none⟩) 1 1,.slice none 0 0,.bool true,.bool false,.int .i64 0,.bool false,.int .i64 0] 44):=⟨_,rfl⟩;obtain⟨e0,he0⟩:∃e:EdS,e=⟨K,0,0,false,false⟩:=⟨_,rfl⟩;have hv4z:V4.heap.size=eb:=by rw[HV4,heb];simp
   have HW5':W5=V4.alloc (.cells #[.int .u8 8,.int .i64 K,.int .u8 8,.string ⟨#[122,122]⟩,.string ⟨#[63]⟩,.bool false,.bool false,.slice (some ⟨V3.heap.size,0,none⟩) 2 2,.slice none 0 0,.slice (some ⟨V3.heap.size+1+1,0,none⟩) 1 1,.slice none 0 0,.bool true,.bool false,.int .i64 0,.bool false,.int .i64 0] 44):=by rw[HW5,HV4]
   have hfx:Fr Non V3 V4:=by rw[HV4];exact(((Zf V3).alloc _).alloc _).alloc _
   have hf5':Fr Non V4 W5:=by rw[HW5'];exact(Zf V4).alloc _
   have hf5:Fr Non w4 W5:=(HV.out.trans hfx).trans hf5';have i0:V4.heap[V3.heap.size]? =some (.cells z2C 48 (0,0)):=by rw[HV4];exact blk_old (blk_old (blk_new _ _ _))
   have i1:V4.heap[V3.heap.size+1]? =some (.cells z2C 48 (0,0)):=by rw[HV4];exact blk_old (blk_new' (by simp) _ _)
   have i2:V4.heap[V3.heap.size+1+1]? =some (.cells #[.int .u8 4,.string ⟨#[122,122]⟩,.string ⟨#[]⟩,.bool false,.bool false,.slice (some ⟨V3.heap.size+1,0,none⟩) 2 2,.slice none 0 0,.slice none 0 0,.slice none 0 0] 42 (0,0)):=by rw[HV4];exact blk_new' (by simp) _ _
   obtain⟨okp,hokp⟩:∃o:Nat→Prop,o=fun k=>V3.heap.size≤k∧k<V3.heap.size+3:=⟨_,rfl⟩;have hrd:StRd okp V4 putL (some ⟨V3.heap.size,0,none⟩) none (some ⟨V3.heap.size+1+1,0,none⟩) none 2 0 1 0:=put_L i0 i1 i2 (by rw[hokp];exact⟨by omega,by omega⟩) (by rw[hokp];exact⟨by omega,by omega⟩) (by rw[hokp];exact⟨by omega,by omega⟩);obtain⟨pd,hpd⟩:∃p:Pd,p=⟨some ⟨V3.heap.size,0,none⟩,none,some ⟨V3.heap.size+1+1,0,none⟩,none,2,0,1,0⟩:=⟨_,rfl⟩;have E5:=Zh (show EdAt eb ⟨8,putL,true,false⟩ pd W5 e0 by rw[HW5',←hv4z,he0,hpd];exact blk_new _ _ _);have hz5:0<eb∧w.heap.size<eb:=by have:=blk_lt B4.out;have:=HV.out.size;omega
   obtain⟨okr,hokr⟩:∃o:Nat→Prop,o=fun k=>ok k∨okp k:=⟨_,rfl⟩;have hokr5:∀q,okr q→q<W5.heap.size∧q≠eb:=fun q hq=>by
    rw[hokr] at hq;have h5:=hf5.size;have h6:=hf5'.size;have h7:=HV.out.size;have h8:=hfx.size
    rcases hq with hq|hq
    ·have:=hok4.out q hq;omega
    ·rw[hokp] at hq;have:=hq.1;have:=hq.2;omega
   have hrd5:StRd okr W5 putL pd.B1 pd.B2 pd.B3 pd.B4 pd.d1 pd.d2 pd.d3 pd.d4:=by rw[hpd];exact(hrd.fr hf5' (fun _ _=>non _)).imp fun k hk=>by rw[hokr];exact .inr hk
   have hrp5:RdRows okr W5 5 A 0 (P.map Fu.d):=R4.out.fr hf5 (fun _ _=>non _) fun k hk=>by rw[hokr];exact .inl hk
   have PG:=Zh (prog_in ⟨8,putL,true,false⟩ rfl rfl pd eb P e0 okr A c W5 (may_oks (lay_may H0.out)) (by have:=HS.out;omega) (by have:=HL30.out;omega) (by rw[he0];exact⟨Int.le_refl _,by have:=HS.out;have:=HL30.out;show(0:Int)+2*((Fu.sizes P+P.length:Nat):Int)≤100000;omega,by have:=HS.out;have:=HL30.out;show -100000≤(K:Int)-((Fu.sizes P+P.length:Nat):Int);omega,by show(K:Int)≤100000;omega⟩)
    hokr5 E5.out hrd5 hrp5 HPC.out HC.out)
   have LAW:=Zh (law_lent (P:=P) (e0:=e0) (by rw[he0]) (by rw[he0]) H0.out);have hpz:putL.size=2:=rfl;clear hrd hrd5 hrp5 hfx hf5' i0 i1 i2 hokp hpd HW5' HV4 hv4z;have hlq:=feds_length ⟨8,putL,true,false⟩ P e0;have hsq:=feds_size ⟨8,putL,true,false⟩ rfl P e0;rw[show(⟨8,putL,true,false⟩:EdC).put.size=2 from hpz] at hsq;obtain⟨Q,e6,hQ⟩:∃Q e6,Fu.eds ⟨8,putL,true,false⟩ P e0=(Q,e6):=⟨_,_,rfl⟩;rw[hQ] at PG LAW hlq hsq;simp only at PG LAW hlq hsq;have HSQ:=Zh (show Fu.sizes Q≤1099511627776 by have:=HS.out;omega);have HLQ:=Zh hlq;have HEB:=Zh heb;have F5:=Zh (F4.out.trans hf5);have G5:=Zh (hf5.cell' G4.out (non _));have B5:=Zh (Zb B4.out hf5 (non _));have HZ5:=Zh hz5
   have hok5:=Zh hokr5;clear hf5 hz5 hlq hsq hpz hQ he0 R4 G4 F4 hok4 hokr5 hokr;have x5:W5.cell? ⟨w.heap.size,0,none⟩=some (.slice A P.length c):=(Zc B5.out).1 0 _ rfl;go_upto_region 5 with fail;rw[←HW5,←HEB.out];clear HW5 heb;clear z0 z1 z2 z3 z4 q10 q11 q12 q13 q14;go_wp2_with fail;refine PG.out.mono ?_;rintro e w6 ⟨A6,c6,rfl,hf6,hed6,hc6,how6⟩;clear PG x5;rw[←HLQ.out] at how6 hc6 ⊢;obtain⟨w7,HW7⟩:∃W,W=w6.alloc (.cells #[.slice A6 Q.length c6] 24):=⟨_,rfl⟩;obtain⟨qb,hqb⟩:∃b,b=w6.heap.size:=⟨_,rfl⟩;have hf7:Fr Non w6 w7:=by rw[HW7];exact(Zf w6).alloc _
   have hq7:w7.heap[qb]? =some (.cells #[.slice A6 Q.length c6] 24 (0,0)):=by rw[HW7,hqb];exact blk_new _ _ _
   have F7:=Zh (show Fr Non w w7 from((F5.out.then hf6 (fun k hk h=>by have h:k=eb:=h;have:=HZ5.out;omega))).trans hf7);have G7:=Zh (hf7.cell' (hf6.cell' G5.out (fun h=>by have h:0=eb:=h;have:=HZ5.out;omega)) (non _));have E7:=Zh (hed6.fr hf7 (non _));have Q7:=Zh hq7;obtain⟨okq,hokq0⟩:∃o:Nat→Prop,o=fun k=>okr k∨W5.heap.size+5≤k∧k<w6.heap.size:=⟨_,rfl⟩;have RQ7:=Zh (show RdRows okq w7 5 A6 0 (Q.map Fu.d) by rw[hokq0];exact how6.rows.fr hf7 (fun _ _=>non _) fun _ h=>h);have hokq:=Zh (show∀k,okq k→k<w7.heap.size from fun k hk=>by
    rw[hokq0] at hk;have h1:=hf6.size;have h2:=hf7.size
    rcases hk with hk|hk
    ·have:=(hok5.out k hk).1;omega
    ·omega)
   have HCQ:=Zh (show Q.length*96≤reach by have:=HL30.out;have:=HLQ.out;unfold reach;omega);have HC6:=Zh hc6;have HQB:=Zh hqb
   clear hf6 hf7 hq7 hed6 how6 hc6 F5 G5 B5 hok5 hqb hokq0;go_upto_region 6 with fail;rw[←HQB.out,←HW7];clear HW7;have xq:w7.cell? ⟨qb,0,none⟩=some (.slice A6 Q.length c6):=(Zc Q7.out).1 0 _ rfl;have x14:=E7.out.c14;have hdd:e6.done=false∨e6.done=true:=by cases e6.done<;>simp
   have AL:=Zh (alive_any w7 G7.out);rcases hdd with hd|hd
   ·rw[hd] at x14;go_wp2_with fail;refine AL.out.mono ?_;rintro e w8 ⟨rfl,hf8⟩;have F8:=Zh (F7.out.trans hf8);clear hf8;go_wp2_with fail;go_ret;exact⟨rfl,F8.out⟩
   ·rw[hd] at x14;have HD:=Zh hd;clear hd;go_wp2_with fail;refine(mayP_any Q okq A6 c6 w7 RQ7.out HCQ.out HSQ.out).mono ?_;rintro e w8 ⟨rfl,hf8⟩;have F8:=Zh (F7.out.trans hf8);have G8:=Zh (hf8.cell' G7.out (non _));have E8:=Zh (E7.out.fr hf8 (non _));have Q8:=Zh (Zb Q7.out hf8 (non _));have RQ8:=Zh (RQ7.out.fr hf8 (fun _ _=>non _) fun _ h=>h);have hok8:=Zh (show∀k,okq k→k<w8.heap.size from fun k hk=>Nat.lt_of_lt_of_le (hokq.out k hk) hf8.size);clear hf8 F7 G7 E7 Q7 RQ7 hokq AL xq x14;cases hm:mayM Q
    ·go_wp2_with fail;refine(alive_any w8 G8.out).mono ?_;rintro e w9 ⟨rfl,hf9⟩;have F9:=Zh (F8.out.trans hf9);clear hf9;go_wp2_with fail;go_ret;exact⟨rfl,F9.out⟩
    ·have hs9:Fu.sizes Q≤900:=by have:=may_small hm;omega
     have HM:=Zh hm;clear hm;have HS9:=Zh hs9;clear hs9;have xq:w8.cell? ⟨qb,0,none⟩=some (.slice A6 Q.length c6):=(Zc Q8.out).1 0 _ rfl;go_wp2_with fail;refine(lay0_any Q okq A6 c6 w8 RQ8.out HCQ.out HC6.out HS9.out hok8.out).mono ?_;rintro e w9 ⟨rfl,hf9⟩;have F9:=Zh (F8.out.trans hf9);have G9:=Zh (hf9.cell' G8.out (non _));have E9:=Zh (E8.out.fr hf9 (non _));have Q9:=Zh (Zb Q8.out hf9 (non _));have RQ9:=Zh (RQ8.out.fr hf9 (fun _ _=>non _) fun _ h=>h);have hok9:=Zh (show∀k,okq k→k<w9.heap.size from fun k hk=>Nat.lt_of_lt_of_le (hok8.out k hk) hf9.size);clear hf9 F8 G8 E8 Q8 RQ8 hok8 xq;by_cases h3:(layM Q 0).2=0
     ·rw[show errV (layM Q 0)= .nilIface by rw[errV,if_pos h3]];have hl:=LAW.out h3 HD.out;have hs9:=HS9.out;clear h3;have K1:=Zh (fun w' (hf:Fr Non w9 w')=>lay1_any Q okq A6 c6 w' (RQ9.out.fr hf (fun _ _=>non _) fun _ h=>h) HCQ.out HC6.out hs9 fun q hq=>Nat.lt_of_lt_of_le (hok9.out q hq) hf.size);have K3:=Zh (fun w' (hf:Fr Non w9 w')=>told_any (layM Q 1) w' (hf.cell' G9.out (non _)));have K5:=Zh (fun w' (hf:Fr Non w9 w')=>alive_any w' (hf.cell' G9.out (non _)));obtain⟨at6,hat6⟩:∃x,x=e6.at_:=⟨_,rfl⟩;have bd:=layM_bd Q 1;rw[hl,←hat6] at bd;have hb1: -1≤at6:=by have:=bd.1;simp only at this;omega
      have hb2:at6≤1000:=by have:=bd.2.1;simp only at this;omega
      clear bd;obtain⟨b1,hb⟩:∃b,b=at6+1:=⟨_,rfl⟩;have hw:IntKind.i64.wrap (at6+1)=b1:=by rw[hb];exact wrap_one at6 hb1 hb2
      rw[hl,←hat6,←hb] at K3;rw[hl,←hat6,←hb] at K1;clear hb hb1 hb2;simp only at K3;obtain⟨v,hv⟩:∃v,errV (b1,8)=v:=⟨_,rfl⟩;rw[hv] at K1 K3;have xq:w9.cell? ⟨qb,0,none⟩=some (.slice A6 Q.length c6):=(Zc Q9.out).1 0 _ rfl;have x13:w9.cell? ⟨eb,13,none⟩=some (.int .i64 at6):=by rw[hat6];exact E9.out.c13
      clear hl hs9 hv hat6;go_upto_region 8 with fail
      go_region_with (first
       |(go_at_call 16;refine(K1.out _ (Zf w9).drew).mono ?_;rintro e w10 ⟨rfl,hf10⟩;have hg10:Fr Non w9 w10:=(Zf w9).drew.trans hf10;have y13:=hg10.cell' x13 (non _))
       |(go_at_call 15;refine(K3.out w10 hg10).mono ?_;rintro e w11 ⟨rfl,hf11⟩;have hg11:=hg10.trans hf11)
       |(go_at_call 13;refine(K5.out w11 hg11).mono ?_;rintro e w12 ⟨rfl,hf12⟩;have hg12:=hg11.trans hf12))
      all_goals
       go_wp2_with fail;go_ret;exact⟨rfl,F9.out.trans hg12⟩
     ·rw[show errV (layM Q 0)=faultV (layM Q 0).1 (layM Q 0).2 by rw[errV,if_neg h3]];clear h3 LAW;generalize (layM Q 0).1=e1 at*;generalize (layM Q 0).2=e2 at*;have hne:∀w:World,(binOp .neq 30 (faultV e1 e2) .nilIface).run Tryz.prog w= .ok (.bool true) w:=fun w=>by kernel_rfl
      have heg:∀w:World,(eqGuard .neq 30 (.tmp 47) (.const .nilIface) (faultV e1 e2) .nilIface).run Tryz.prog w= .ok () w:=fun w=>by kernel_rfl
      go_wp2_with fail;refine(alive_any w9 G9.out).mono ?_;rintro e w10 ⟨rfl,hf10⟩;have F10:=Zh (F9.out.trans hf10);clear hf10;go_wp2_with fail;go_ret;exact⟨rfl,F10.out⟩
  ·rw[show errV (layM P 1)=faultV (layM P 1).1 (layM P 1).2 by rw[errV,if_neg h0]];clear h0;generalize (layM P 1).1=e1 at*;generalize (layM P 1).2=e2 at*;have hne:∀w:World,(binOp .neq 30 (faultV e1 e2) .nilIface).run Tryz.prog w= .ok (.bool true) w:=fun w=>by kernel_rfl
   have heg:∀w:World,(eqGuard .neq 30 (.tmp 13) (.const .nilIface) (faultV e1 e2) .nilIface).run Tryz.prog w= .ok () w:=fun w=>by kernel_rfl
   go_wp2_with fail;refine(alive_any w4 G4.out).mono ?_;rintro e w5 ⟨rfl,hf5⟩;have F5:=Zh (F4.out.trans hf5);clear hf5;go_wp2_with fail;go_ret;exact⟨rfl,F5.out⟩
section
open Go.ChangeShapes Go.WideShapes
theorem law_lifted (os:Os) (started:os.Started) (H:Type) (enc:TypeId×Value→H):
  ReturnsInHanded {} Tryz.checked os 5 .any (fun w args=>(Rows.kindsLentSpec.pre enc Tryz.prog Tryz.f5 [] false w args∧laidMetH Tryz.prog [("errors.errorType",Rows.laid_errors_errorType)] w)∧sizedMet enc Tryz.prog Tryz.f5 (OpenSpec.ofChange Rows.kindsLentSpec) false w args)
   (Rows.kindsLentSpec.post enc Tryz.prog Tryz.f5 false true false false):=by
 refine returnsInHanded_of_change_and (C:=Tryz.checked) (X:=fun w _=>laidMetH Tryz.prog [("errors.errorType",Rows.laid_errors_errorType)] w) (fun _ _ _ hh h=>h.of_heap hh) own_knob started (by kernel_rfl) Tryz.func5
  (ChangeSpec.witness_at (enc:=enc) (C:=Tryz.checked) (os:=os) (X:=fun w _=>laidMetH Tryz.prog [("errors.errorType",Rows.laid_errors_errorType)] w) false (laidWorld os) #[.agg #[.slice none 0 0],.int .u8 0] 8 rfl (by kernel_rfl) (by kernel_rfl) (by kernel_rfl) (by kernel_rfl) (by kernel_rfl) (laidWorld_met os _)) ?_
 intro W base args ds gs before hval0 hW _ hsz hL _;have hval:∀(j:Nat) t v,Tryz.f5.params[j]? =some t→args[j]? =some v→Value.okWide Tryz.prog W .any base t v:=hval0;have hW':=hW;obtain⟨p,q,hA0,hV0,rfl,hfz,hnd⟩:=hW;have hA:DataW.TrodAll enc Tryz.prog W 0 (fun _=>true) true Tryz.f5.params.toList args.toList ds p:=hA0;have hV:DataW.TrodVars enc Tryz.prog W (fun _=>true) [] gs q:=hV0;rw[Tryz.params5] at hA hval;obtain⟨v0,v1,d0,d1,p0,p1,rfl,rfl,rfl,h0,h1⟩:=trodAll_two hA;obtain⟨rfl,rfl⟩:gs=[]∧q=[]:=by
  cases gs with
  |nil=>exact⟨rfl,hV⟩
  |cons g r=>exact absurd hV (by intro h;cases h)
 have hval1:=hval 0 24 v0 rfl rfl;have hvb1:=hval 1 5 v1 rfl rfl;obtain⟨n1,rfl,rfl,rfl,hn1⟩:=open_int Tryz.underlying5 hvb1 h1;obtain⟨k,rfl⟩:∃k:UInt8,n1=(k.toNat:Int):=by
  have hw:0≤n1∧n1≤255:=by have h:=hn1;simp only[Lit.wf,Bool.and_eq_true,decide_eq_true_eq] at h;exact⟨by have e:IntKind.u8.min=0:=rfl;omega,by have e:IntKind.u8.max=255:=rfl;omega⟩
  refine⟨UInt8.ofNat n1.toNat,?_⟩;have e:(UInt8.ofNat n1.toNat).toNat=n1.toNat%256:=UInt8.toNat_ofNat' ..;rw[e];omega
 obtain⟨cs,rfl⟩:∃cs,v0= .agg cs:=by
  unfold Value.okWide at hval1;rw[Tryz.underlying24] at hval1;obtain⟨cs,h,_⟩:=hval1;exact⟨cs,h⟩
 have h0k:=h0;obtain⟨fuel,hf⟩:=h0;have hlight:Light (d0.weights Tryz.prog 24):=by
  have hsz':(DataW.weightsEach Tryz.prog (Tryz.f5.params.toList++Rows.kindsLentSpec.plain.varTypes Tryz.prog) ([d0,.lit (.int .u8 k.toNat)]++[])).all (· ≤reachBytes)=true:=hsz;rw[Tryz.params5] at hsz';have:Light (DataW.weightsEach Tryz.prog (#[24,5].toList++Rows.kindsLentSpec.plain.varTypes Tryz.prog) ([d0,.lit (.int .u8 k.toNat)]++[])):=hsz';exact Light.left this
 obtain⟨P,A,c,hcs,hc1,hc2,hrd⟩:=op_prog fuel (.agg cs) _ _ hf hlight;have hcs':cs=#[.slice A P.length c]:=by
  have:cs.toList=[.slice A P.length c]:=hcs;rw[←Array.toList_inj];exact this
 subst hcs';refine(klent_any P k (InW W) A c W hrd hc2 hc1 (fun q hq=>hq) (handle_of_laid hL)).mono fun e W' ⟨he,hw⟩=>?_;subst he;have e1:Rows.kindsLentSpec.fn H ([d0,.lit (.int .u8 k.toNat)]++[])={results:=[.lit (.bool true)],args:=[d0,.lit (.int .u8 k.toNat)]}:=by simp[Rows.kindsLentSpec]
 have hlt:∀x∈p0,x.block<W.heap.size:=fun x hx=>hW'.lt x (by simpa using hx);refine⟨_,rfl,post_of_fr hw hW' ?_ ?_ ?_ ?_⟩
 ·intro b sp hd;rw[e1];exact trodAll_mk1 (shut_bool Tryz.underlying4 true)
 ·intro sp hsp;rw[e1,List.append_nil,Tryz.params5];have h3:=trodAll_mk2 (WideElems.Trod_stays laidOut readProg rowProg h0k (fun x hx=>hw.below.same (hlt x hx)) (fun x hx=>hsp x (by simpa using hx))) (shut_int Tryz.underlying5 hn1);simp only[List.append_nil] at h3 ⊢;exact h3
 ·intro sp;rw[e1];rfl
 ·exact ok_one (by kernel_rfl) rfl (okWide_bool_mk Tryz.underlying4 true)
end
theorem kindsLent_row_holds:Rows.KindsLentSaid:=
 OpenClaim.holds_of_wide 5 Tryz.f5 rfl rfl rfl rfl rfl rfl rfl ⟨rfl,rfl,rfl,rfl,rfl⟩ rfl rfl rfl rfl rfl (by kernel_rfl) Tryz.func5 (by kernel_rfl)
  (of_decide_eq_true (by kernel_rfl)) (by unfold Func.isWrapper;rw[if_neg (of_decide_eq_false (by kernel_rfl))];exact⟨rfl,rfl⟩)
  (fun os started H enc _=>law_lifted os started H enc)
theorem kindsLent_card_holds:Rows.KindsLentCardSaid:=
 Claim7.holds_tied_plain_at .later [] [.handle] true (true,"0ae2bf723f1d24751efb88161dc2fe8c8504fb71dda75bd1ab4d1dcbc08523ed") true
  kindsLent_row_holds (fun _ h=>by cases h) (by kernel_rfl) (fun _ h=>by cases h) kindsLent_row_tie rfl ⟨rfl,rfl⟩ (by kernel_rfl) rfl
  (fun f fn hf hfn=>by
    obtain rfl:f=5:=Option.some.inj ((show Tryz.prog.funcNamed "sacristy/sacristylaw11.KindsLent"=some 5 by kernel_rfl).symm.trans hf) |>.symm;obtain rfl:fn=Tryz.f5:=(Option.some.inj (Tryz.func5.symm.trans hfn)).symm;exact⟨by kernel_rfl,fun j t ht=>by
     rw[Tryz.params5] at ht;have h3:t=24∨t=5:=by
      rcases j with _|_|j
      ·exact .inl (by simpa using ht.symm)
      ·exact .inr (by simpa using ht.symm)
      ·simp at ht
     rcases h3 with rfl|rfl
     ·exact(show Tryz.prog.wantsStandIn 24=false by kernel_rfl)
     ·exact(show Tryz.prog.wantsStandIn 5=false by kernel_rfl)⟩)
  (by kernel_rfl)
#print axioms kindsLent_card_holds
end Go.Proofs.YtpkpgmnbheenbaaGreatDoor
