/- MovesTells' card: for every program the call returns true, and the program stays. Conditions: the card's; errors.errorType, which the row lists, is tied to the program's text. -/
import Derived.Test.YtpkpgmnbheenbaaGreatDoorMg01
import Derived.Test.YtpkpgmnbheenbaaGreatDoorMg02
import Derived.Test.YtpkpgmnbheenbaaGreatDoorMg06
import Derived.Test.YtpkpgmnbheenbaaGreatDoorMg09
import Derived.Test.YtpkpgmnbheenbaaGreatDoorMg16
import Derived.Test.YtpkpgmnbheenbaaGreatDoorMg20
import Derived.Test.YtpkpgmnbheenbaaGreatDoorMg21
import Derived.Test.YtpkpgmnbheenbaaGreatDoorMg24
import Derived.Deep.RegionWith
import Derived.Test.YtpkpgmnbheenbaaGreatDoorTie
import Derived.Test.YtpkpgmnbheenbaaGreatDoorCards
import Derived.SevenTiedAt
namespace Go.Proofs.YtpkpgmnbheenbaaGreatDoor
open Go.RowKit
set_option linter.unusedVariables false
set_option linter.unusedSimpArgs false
set_option maxHeartbeats 8000000
set_option maxRecDepth 100000
def alT_a:ByteArray:=⟨#[102,110,32,102,40,41,32,123,32,98,117,102,32,98,91,49,93,59,32,109,111,118,101,32,99,32,61,32,98,59,32,98,91,48,93,32,61,32,49,59,32,125,59]⟩
def alF_a:List Fu:=[⟨⟨#[102]⟩,[],[.mk 3 ⟨#[98]⟩ ⟨#[]⟩ false false [.mk 1 1 ⟨#[]⟩ 0 []] [] [] [],.mk 9 ⟨#[99]⟩ ⟨#[98]⟩ false false [] [] [] [],.mk 4 ⟨#[98]⟩ ⟨#[]⟩ false false [.mk 1 0 ⟨#[]⟩ 0 [],.mk 1 1 ⟨#[]⟩ 0 []] [] [] []],false,[]⟩]
def alT_b:ByteArray:=⟨#[102,110,32,102,40,110,117,109,32,110,41,32,123,32,98,117,102,32,98,91,49,93,59,32,105,102,32,110,32,123,32,109,111,118,101,32,99,32,61,32,98,59,32,125,32,108,101,116,32,120,32,61,32,35,98,59,32,125,59]⟩
def alF_b:List Fu:=[⟨⟨#[102]⟩,[⟨⟨#[110]⟩,false,false,false⟩],[.mk 3 ⟨#[98]⟩ ⟨#[]⟩ false false [.mk 1 1 ⟨#[]⟩ 0 []] [] [] [],.mk 5 ⟨#[]⟩ ⟨#[]⟩ false false [.mk 2 0 ⟨#[110]⟩ 0 []] [] [.mk 9 ⟨#[99]⟩ ⟨#[98]⟩ false false [] [] [] []] [],.mk 1 ⟨#[120]⟩ ⟨#[]⟩ false false [.mk 4 0 ⟨#[98]⟩ 0 []] [] [] []],false,[]⟩]
def alT_c:ByteArray:=⟨#[102,110,32,102,40,41,32,123,32,98,117,102,32,98,91,49,93,59,32,102,111,114,32,105,32,60,32,50,32,123,32,109,111,118,101,32,99,32,61,32,98,59,32,125,32,125,59]⟩
def alF_c:List Fu:=[⟨⟨#[102]⟩,[],[.mk 3 ⟨#[98]⟩ ⟨#[]⟩ false false [.mk 1 1 ⟨#[]⟩ 0 []] [] [] [],.mk 7 ⟨#[105]⟩ ⟨#[]⟩ false false [.mk 1 2 ⟨#[]⟩ 0 []] [] [.mk 9 ⟨#[99]⟩ ⟨#[98]⟩ false false [] [] [] []] []],false,[]⟩]
def alT_d:ByteArray:=⟨#[102,110,32,102,40,110,117,109,32,110,41,32,123,32,98,117,102,32,98,91,49,93,59,32,105,102,32,110,32,123,32,109,111,118,101,32,99,32,61,32,98,59,32,125,32,101,108,115,101,32,123,32,109,111,118,101,32,100,32,61,32,98,59,32,125,32,125,59]⟩
def alF_d:List Fu:=[⟨⟨#[102]⟩,[⟨⟨#[110]⟩,false,false,false⟩],[.mk 3 ⟨#[98]⟩ ⟨#[]⟩ false false [.mk 1 1 ⟨#[]⟩ 0 []] [] [] [],.mk 5 ⟨#[]⟩ ⟨#[]⟩ false false [.mk 2 0 ⟨#[110]⟩ 0 []] [] [.mk 9 ⟨#[99]⟩ ⟨#[98]⟩ false false [] [] [] []] [.mk 9 ⟨#[100]⟩ ⟨#[98]⟩ false false [] [] [] []]],false,[]⟩]
theorem alP_a:parseQ alT_a=some alF_a:=by kernel_rfl
theorem alC_a:errV (layM alF_a 4)=faultV 3 140:=by kernel_rfl
theorem alZ_a:Fu.sizes alF_a≤900:=by rw[show Fu.sizes alF_a=_ from rfl];decide
theorem alP_b:parseQ alT_b=some alF_b:=by kernel_rfl
theorem alC_b:errV (layM alF_b 4)=faultV 4 140:=by kernel_rfl
theorem alZ_b:Fu.sizes alF_b≤900:=by rw[show Fu.sizes alF_b=_ from rfl];decide
theorem alP_c:parseQ alT_c=some alF_c:=by kernel_rfl
theorem alC_c:errV (layM alF_c 4)=faultV 3 140:=by kernel_rfl
theorem alZ_c:Fu.sizes alF_c≤900:=by rw[show Fu.sizes alF_c=_ from rfl];decide
theorem alP_d:parseQ alT_d=some alF_d:=by kernel_rfl
theorem alC_d:errV (layM alF_d 4)= .nilIface:=by kernel_rfl
theorem alZ_d:Fu.sizes alF_d≤900:=by rw[show Fu.sizes alF_d=_ from rfl];decide
theorem toldT_any (s:ByteArray) (xs:List Fu) (r:Int×Int) (w:World) (hp:parseQ s=some xs) (hl:errV (layM xs 4)=errV r) (hz:Fu.sizes xs≤900) (h16:xs.length≤16) (hg:w.cell? ⟨0,0,none⟩=some (rty 30)):
  Calls Tryz.prog 53 #[.string s,.int .i64 r.1,.int .i64 r.2] w fun e w'=>e= .returned (.bool true)∧Fr Non w w':=by
 have HG:=Zh hg;clear hg;have HP:=Zh (qparsed_any s xs w hp);clear hp;have HL:=Zh hl;clear hl;go_enter Tryz.func53,Tryz.ntmps53;go_wp2_with fail;refine HP.out.mono ?_;rintro e w2 ⟨A,c,rfl,hc,hf2,hr2⟩;have F2:=Zh hf2;have S2:=Zh (lay4_any xs _ A c w2 hr2 (by unfold reach;omega) hc hz fun q hq=>hq.2);clear hf2 hr2 hc HP;go_wp2_with fail;refine S2.out.mono ?_;rintro e w3 ⟨rfl,hf3⟩;rw[HL.out];have F3:=Zh (F2.out.trans hf3);clear hf3 S2 F2;have T3:=Zh (told_any r w3 (F3.out.cell' HG.out (non _)));obtain⟨v,hv⟩:∃v,errV r=v:=⟨_,rfl⟩;rw[hv] at T3 ⊢;clear hv;go_wp2_with fail;refine T3.out.mono ?_;rintro e w4 ⟨rfl,hf4⟩;have F4:=Zh (F3.out.trans hf4);clear hf4 T3 F3;go_wp2_with fail;go_ret;exact⟨rfl,F4.out⟩
theorem alive_any (w:World) (hg:w.cell? ⟨0,0,none⟩=some (rty 30)):Calls Tryz.prog 29 #[] w fun e w'=>e= .returned (.bool true)∧Fr Non w w':=by
 have HG:=Zh hg;clear hg;have hq0:=Zh (fun w=>toldT_any alT_a alF_a (3,140) w alP_a (by rw[alC_a];rfl) alZ_a (by decide));have hq1:=Zh (fun w=>toldT_any alT_b alF_b (4,140) w alP_b (by rw[alC_b];rfl) alZ_b (by decide));have hq2:=Zh (fun w=>toldT_any alT_c alF_c (3,140) w alP_c (by rw[alC_c];rfl) alZ_c (by decide));have hq3:=Zh (fun w=>toldT_any alT_d alF_d (0,0) w alP_d (by rw[alC_d];rfl) alZ_d (by decide));simp only[alT_a,alT_b,alT_c,alT_d] at hq0 hq1 hq2 hq3;go_enter Tryz.func29,Tryz.ntmps29;go_wp2_with fail;refine(hq0.out _ HG.out).mono ?_;rintro e w1 ⟨rfl,hf⟩;have F1:=Zh hf;clear hf;go_wp2_with fail;refine(hq1.out _ (F1.out.cell' HG.out (non _))).mono ?_;rintro e w2 ⟨rfl,hf⟩;have F2:=Zh (F1.out.trans hf);clear hf;go_wp2_with fail;refine(hq2.out _ (F2.out.cell' HG.out (non _))).mono ?_;rintro e w3 ⟨rfl,hf⟩;have F3:=Zh (F2.out.trans hf);clear hf;go_wp2_with fail;refine(hq3.out _ (F3.out.cell' HG.out (non _))).mono ?_;rintro e w4 ⟨rfl,hf⟩;have F4:=Zh (F3.out.trans hf);clear hf;go_wp2_with fail;go_ret;exact⟨rfl,F4.out⟩
theorem rlay_any (P:List Fu) (ok:Nat→Prop) (A:Option Addr) (c:Nat) (w:World) (hr:RdRows ok w 5 A 0 (P.map Fu.d)) (hc:P.length*96≤reach) (hpc:P.length≤c) (hs:Fu.sizes P≤900) (hok:∀q,ok q→q<w.heap.size):
  Calls Tryz.prog 31 #[.agg #[.slice A P.length c]] w fun e w'=>e= .returned (.agg #[.int .i64 (layM P 4).1,.int .i64 (layM P 4).2])∧Fr Non w w':=by
 obtain⟨W1,HW1⟩:∃W1,W1=(w.alloc (.cells #[.slice A P.length c] 24)).alloc (.cells #[.int .i64 0,.int .i64 0] 34):=⟨_,rfl⟩;have hf1:Fr Non w W1:=by rw[HW1];exact((Zf w).alloc _).alloc _
 have B1:=Zh (show W1.heap[w.heap.size]? =some (.cells #[.slice A P.length c] 24 (0,0)) by rw[HW1];exact blk_old (blk_new _ _ _));have Q1:=Zh (show W1.heap[w.heap.size+1]? =some (.cells #[.int .i64 0,.int .i64 0] 34 (0,0)) by rw[HW1];exact blk_new' (by simp) _ _);have F1:=Zh hf1;have HC:=Zh (rcheck_any P ok A c W1 (hr.fr hf1 (fun _ _=>non _) fun _ h=>h) hc hpc (by omega) (fun q hq=>by have:=hok q hq;have:=hf1.size;omega) (10+4) (by omega) (by omega));rw[←law_lay P 4] at HC;obtain⟨r,hr0⟩:∃r,layM P 4=r:=⟨_,rfl⟩;rw[hr0] at HC ⊢;clear hf1 hr hok hr0;have x1:=(Zc B1.out).1 0 _ rfl;go_enter Tryz.func31,Tryz.ntmps31;go_upto_region 1 with fail;rw[←HW1];clear HW1;go_wp2_with fail;refine HC.out.mono ?_;rintro e w2 ⟨rfl,hf2⟩;unfold pairV;have Q2:=Zh (Zb Q1.out hf2 (non _));have F2:=Zh (F1.out.trans hf2);clear hf2 x1;have q0:=(Zc Q2.out).1 0 _ rfl;have q1:=(Zc Q2.out).1 1 _ rfl;have qf:=(Zc Q2.out).2;go_wp2_with fail;have hqz:((w2.setCell ⟨w.heap.size+1,0,none⟩ (.int .i64 r.1)).setCell ⟨w.heap.size+1,1,none⟩ (.int .i64 r.2)).heap[w.heap.size+1]? =some (.cells #[.int .i64 r.1,.int .i64 r.2] 34 (0,0)):=blk_set (blk_set Q2.out 0 _) 1 _;have HFZ:=Zh (show Fr (fun q=>q=w.heap.size+1) w2 ((w2.setCell ⟨w.heap.size+1,0,none⟩ (.int .i64 r.1)).setCell ⟨w.heap.size+1,1,none⟩ (.int .i64 r.2)) from((Fr.refl (fun q=>q=w.heap.size+1) w2).setCell _ _ (.inl rfl)).setCell _ _ (.inl rfl));clear q0 q1 qf;generalize ((w2.setCell ⟨w.heap.size+1,0,none⟩ (.int .i64 r.1)).setCell ⟨w.heap.size+1,1,none⟩ (.int .i64 r.2))=wz at*;have q0:=(Zc hqz).1 0 _ rfl;have q1:=(Zc hqz).1 1 _ rfl;clear hqz;refine bodyPost_ret (v:=.agg #[.int .i64 r.1,.int .i64 r.2]) (by simp[results,Tryz.results31,go_sem,q0,q1]) rfl ⟨rfl,F2.out.then HFZ.out fun k hk e=>by have e:k=w.heap.size+1:=e;omega⟩
theorem tells_any (P:List Fu) (ok:Nat→Prop) (A:Option Addr) (c:Nat) (w:World) (hr:RdRows ok w 5 A 0 (P.map Fu.d)) (hc:P.length*96≤reach) (hpc:P.length≤c) (hok:∀q,ok q→q<w.heap.size) (hg:w.cell? ⟨0,0,none⟩=some (rty 30)):
  Calls Tryz.prog 9 #[.agg #[.slice A P.length c]] w fun e w'=>e= .returned (.bool true)∧Fr Non w w':=by
 obtain⟨W1,HW1⟩:∃W1,W1=w.alloc (.cells #[.slice A P.length c] 24):=⟨_,rfl⟩;have hf1:Fr Non w W1:=by rw[HW1];exact(Zf w).alloc _
 have B1:=Zh (show W1.heap[w.heap.size]? =some (.cells #[.slice A P.length c] 24 (0,0)) by rw[HW1];exact blk_new _ _ _);have R1:=Zh (hr.fr hf1 (fun _ _=>non _) fun _ h=>h);have G1:=Zh (hf1.cell' hg (non _));have F1:=Zh hf1;have hok1:=Zh (show∀q,ok q→q<W1.heap.size from fun q hq=>by have:=hok q hq;have:=hf1.size;omega);clear hf1 hr hg;have x1:=(Zc B1.out).1 0 _ rfl;have HC:=Zh hc;have HPC:=Zh hpc
 clear hc hpc hok;go_enter Tryz.func9,Tryz.ntmps9;go_upto_region 1 with fail;rw[←HW1];clear HW1;go_wp2_with fail;refine(large08_any P ok A c W1 R1.out HC.out hok1.out).mono ?_;rintro e w2 ⟨⟨b,rfl,hb⟩,hf2⟩;have F2:=Zh (F1.out.trans hf2);have G2:=Zh (hf2.cell' G1.out (non _));have R2:=Zh (R1.out.fr hf2 (fun _ _=>non _) fun _ h=>h);have B2:=Zh (Zb B1.out hf2 (non _));have hok2:=Zh (show∀q,ok q→q<w2.heap.size from fun q hq=>by have:=hok1.out q hq;have:=hf2.size;omega);clear hf2 F1 G1 R1 B1 x1;cases b
 case true=>
  go_wp2_with fail;refine(alive_any w2 G2.out).mono ?_;rintro e w3 ⟨rfl,hf3⟩;have F3:=Zh (F2.out.trans hf3);clear hf3;go_wp2_with fail;go_ret;exact⟨rfl,F3.out⟩
 case false=>
  obtain⟨hl30,hs9⟩:=hb rfl;have HS:=Zh hs9;clear hs9 hb;have x2:=(Zc B2.out).1 0 _ rfl;go_wp2_with fail;refine(copyP_any P ok A c w2 hok2.out R2.out HPC.out HC.out).mono ?_;rintro e w3 ⟨A',c',rfl,hf3,hc',hr3⟩;have F3:=Zh (F2.out.trans hf3);have G3:=Zh (hf3.cell' G2.out (non _));have R3:=Zh (R2.out.fr hf3 (fun _ _=>non _) fun _ h=>h);have B3:=Zh (Zb B2.out hf3 (non _));have hok3:=Zh (show∀q,ok q→q<w3.heap.size from fun q hq=>by have:=hok2.out q hq;have:=hf3.size;omega);have O3:=Zh hr3;have hon3:=Zh (show∀q,New w2.heap.size w3 q→q<w3.heap.size from fun q hq=>hq.2);have HPC':=Zh hc';clear hf3 hr3 F2 G2 R2 B2 hok2 hc' x2;obtain⟨w4,HW4⟩:∃w4,w4=w3.alloc (.cells #[.slice A' P.length c'] 24):=⟨_,rfl⟩;have hf4:Fr Non w3 w4:=by rw[HW4];exact(Zf w3).alloc _
  have C4:=Zh (show w4.heap[w3.heap.size]? =some (.cells #[.slice A' P.length c'] 24 (0,0)) by rw[HW4];exact blk_new _ _ _);have F4:=Zh (F3.out.trans hf4);have G4:=Zh (hf4.cell' G3.out (non _));have R4:=Zh (R3.out.fr hf4 (fun _ _=>non _) fun _ h=>h);have B4:=Zh (Zb B3.out hf4 (non _));have O4:=Zh (O3.out.fr hf4 (fun _ _=>non _) fun _ h=>h);have hok4:=Zh (show∀q,ok q→q<w4.heap.size from fun q hq=>by have:=hok3.out q hq;have:=hf4.size;omega);have hon4:=Zh (show∀q,New w2.heap.size w3 q→q<w4.heap.size from fun q hq=>by have:=hon3.out q hq;have:=hf4.size;omega);clear hf4 F3 G3 R3 B3 O3 hok3 hon3;have K1:=Zh (fun w5 (hf:Fr Non w4 w5)=>lay4_any P _ A' c' w5 (O4.out.fr hf (fun _ _=>non _) fun _ h=>h) HC.out HPC'.out HS.out.1 fun q hq=>Nat.lt_of_lt_of_le (hon4.out q hq) hf.size);have K2:=Zh (fun w5 (hf:Fr Non w4 w5)=>rlay_any P ok A c w5 (R4.out.fr hf (fun _ _=>non _) fun _ h=>h) HC.out HPC.out HS.out.1 fun q hq=>Nat.lt_of_lt_of_le (hok4.out q hq) hf.size);have K3:=Zh (fun w5 (hf:Fr Non w4 w5)=>told_any (layM P 4) w5 (hf.cell' G4.out (non _)));have K4:=Zh (fun w5 (hf:Fr Non w4 w5)=>sameP_self P (fun _=>True) A' A c' c w5 (O4.out.fr hf (fun _ _=>non _) fun _ _=>trivial) HC.out (R4.out.fr hf (fun _ _=>non _) fun _ _=>trivial));have K5:=Zh (fun w5 (hf:Fr Non w4 w5)=>alive_any w5 (hf.cell' G4.out (non _)));obtain⟨v,hv⟩:∃v,errV (layM P 4)=v:=⟨_,rfl⟩;obtain⟨r,hr0⟩:∃r,layM P 4=r:=⟨_,rfl⟩;rw[hv] at K1 K3;rw[hr0] at K2 K3;clear hv hr0;have c4:=(Zc C4.out).1 0 _ rfl;have b4:=(Zc B4.out).1 0 _ rfl;go_upto_region 4 with fail;rw[←HW4];clear HW4
  go_region_with (first
   |(go_at_call 30;refine(K1.out _ (Zf w4).drew).mono ?_;rintro e w5 ⟨rfl,hf5⟩;have hg5:Fr Non w4 w5:=(Zf w4).drew.trans hf5;have c5:=hg5.cell' c4 (non _);have b5:=hg5.cell' b4 (non _))
   |(go_at_call 31;refine(K2.out w5 hg5).mono ?_;rintro e w6 ⟨rfl,hf6⟩;have hg6:=hg5.trans hf6;have c6:=hg6.cell' c4 (non _);have b6:=hg6.cell' b4 (non _))
   |(go_at_call 15;refine(K3.out w6 hg6).mono ?_;rintro e w7 ⟨rfl,hf7⟩;have hg7:=hg6.trans hf7;have c7:=hg7.cell' c4 (non _);have b7:=hg7.cell' b4 (non _))
   |(go_at_call 18;refine(K4.out w7 hg7).mono ?_;rintro e w8 ⟨rfl,hf8⟩;have hg8:=hg7.trans hf8)
   |(go_at_call 29;refine(K5.out w8 hg8).mono ?_;rintro e w9 ⟨rfl,hf9⟩;have hg9:=hg8.trans hf9))
  all_goals
   go_wp2_with fail;go_ret;exact⟨rfl,F4.out.trans hg9⟩
section
open Go.ChangeShapes Go.WideShapes
theorem law_lifted (os:Os) (started:os.Started) (H:Type) (enc:TypeId×Value→H):
  ReturnsInHanded {} Tryz.checked os 9 .any (fun w args=>(Rows.movesTellsSpec.pre enc Tryz.prog Tryz.f9 [] false w args∧laidMetH Tryz.prog [("errors.errorType",Rows.laid_errors_errorType)] w)∧sizedMet enc Tryz.prog Tryz.f9 (OpenSpec.ofChange Rows.movesTellsSpec) false w args)
   (Rows.movesTellsSpec.post enc Tryz.prog Tryz.f9 false true false false):=by
 refine returnsInHanded_of_change_and (C:=Tryz.checked) (X:=fun w _=>laidMetH Tryz.prog [("errors.errorType",Rows.laid_errors_errorType)] w) (fun _ _ _ hh h=>h.of_heap hh) own_knob started (by kernel_rfl) Tryz.func9
  (ChangeSpec.witness_at (enc:=enc) (C:=Tryz.checked) (os:=os) (X:=fun w _=>laidMetH Tryz.prog [("errors.errorType",Rows.laid_errors_errorType)] w) false (laidWorld os) #[.agg #[.slice none 0 0]] 8 rfl (by kernel_rfl) (by kernel_rfl) (by kernel_rfl) (by kernel_rfl) (by kernel_rfl) (laidWorld_met os _)) ?_
 intro W base args ds gs before hval0 hW _ hsz hL _;have hval:∀(j:Nat) t v,Tryz.f9.params[j]? =some t→args[j]? =some v→Value.okWide Tryz.prog W .any base t v:=hval0;have hW':=hW;obtain⟨p,q,hA0,hV0,rfl,hfz,hnd⟩:=hW;have hA:DataW.TrodAll enc Tryz.prog W 0 (fun _=>true) true Tryz.f9.params.toList args.toList ds p:=hA0;have hV:DataW.TrodVars enc Tryz.prog W (fun _=>true) [] gs q:=hV0;rw[Tryz.params9] at hA hval;obtain⟨v0,d0,rfl,rfl,h0⟩:=trodAll_one hA;obtain⟨rfl,rfl⟩:gs=[]∧q=[]:=by
  cases gs with
  |nil=>exact⟨rfl,hV⟩
  |cons g r=>exact absurd hV (by intro h;cases h)
 have hval1:=hval 0 24 v0 rfl rfl;obtain⟨cs,rfl⟩:∃cs,v0= .agg cs:=by
  unfold Value.okWide at hval1;rw[Tryz.underlying24] at hval1;obtain⟨cs,h,_⟩:=hval1;exact⟨cs,h⟩
 have h0k:=h0;obtain⟨fuel,hf⟩:=h0;have hlight:Light (d0.weights Tryz.prog 24):=by
  have hsz':(DataW.weightsEach Tryz.prog (Tryz.f9.params.toList++Rows.movesTellsSpec.plain.varTypes Tryz.prog) ([d0]++[])).all (· ≤reachBytes)=true:=hsz;rw[Tryz.params9] at hsz';have:Light (DataW.weightsEach Tryz.prog (#[24].toList++Rows.movesTellsSpec.plain.varTypes Tryz.prog) ([d0]++[])):=hsz';exact Light.left this
 obtain⟨P,A,c,hcs,hc1,hc2,hrd⟩:=op_prog fuel (.agg cs) _ _ hf hlight;have hcs':cs=#[.slice A P.length c]:=by
  have:cs.toList=[.slice A P.length c]:=hcs;rw[←Array.toList_inj];exact this
 subst hcs';refine(tells_any P (InW W) A c W hrd hc2 hc1 (fun q hq=>hq) (handle_of_laid hL)).mono fun e W' ⟨he,hw⟩=>?_;subst he;have e1:Rows.movesTellsSpec.fn H ([d0]++[])={results:=[.lit (.bool true)],args:=[d0]}:=by simp[Rows.movesTellsSpec]
 have hlt:∀x∈p,x.block<W.heap.size:=fun x hx=>hW'.lt x (by simpa using hx);refine⟨_,rfl,post_of_fr hw hW' ?_ ?_ ?_ ?_⟩
 ·intro b sp hd;rw[e1];exact trodAll_mk1 (shut_bool Tryz.underlying4 true)
 ·intro sp hsp;rw[e1,List.append_nil,Tryz.params9];exact trodAll_mk1 (WideElems.Trod_stays laidOut readProg rowProg h0k (fun x hx=>hw.below.same (hlt x hx)) (fun x hx=>hsp x (by simpa using hx)))
 ·intro sp;rw[e1];rfl
 ·exact ok_one (by kernel_rfl) rfl (okWide_bool_mk Tryz.underlying4 true)
end
theorem movesTells_row_holds:Rows.MovesTellsSaid:=
 OpenClaim.holds_of_wide 9 Tryz.f9 rfl rfl rfl rfl rfl rfl rfl ⟨rfl,rfl,rfl,rfl,rfl⟩ rfl rfl rfl rfl rfl (by kernel_rfl) Tryz.func9 (by kernel_rfl)
  (of_decide_eq_true (by kernel_rfl)) (by unfold Func.isWrapper;rw[if_neg (of_decide_eq_false (by kernel_rfl))];exact⟨rfl,rfl⟩)
  (fun os started H enc _=>law_lifted os started H enc)
theorem movesTells_card_holds:Rows.MovesTellsCardSaid:=
 Claim7.holds_tied_plain_at .later [] [.handle] true (true,"0ae2bf723f1d24751efb88161dc2fe8c8504fb71dda75bd1ab4d1dcbc08523ed") true
  movesTells_row_holds (fun _ h=>by cases h) (by kernel_rfl) (fun _ h=>by cases h) movesTells_row_tie rfl ⟨rfl,rfl⟩ (by kernel_rfl) rfl
  (fun f fn hf hfn=>by
    obtain rfl:f=9:=Option.some.inj ((show Tryz.prog.funcNamed "sacristy/sacristylaw14.MovesTells"=some 9 by kernel_rfl).symm.trans hf) |>.symm;obtain rfl:fn=Tryz.f9:=(Option.some.inj (Tryz.func9.symm.trans hfn)).symm;exact⟨by kernel_rfl,fun j t ht=>by
     rw[Tryz.params9] at ht;have h3:t=24:=by
      rcases j with _|j
      ·simpa using ht.symm
      ·simp at ht
     subst h3;exact(show Tryz.prog.wantsStandIn 24=false by kernel_rfl)⟩)
  (by kernel_rfl)
#print axioms movesTells_card_holds
end Go.Proofs.YtpkpgmnbheenbaaGreatDoor
