/- BorrowWithin's card: for every program and any two numbers the call returns true, and the program stays. Conditions: the card's; errors.errorType, which the row lists, is tied to the program's text. -/
import Derived.Test.YtpkpgmnbheenbaaGreatDoorMh01
import Derived.Test.YtpkpgmnbheenbaaGreatDoorMh07
import Derived.Test.YtpkpgmnbheenbaaGreatDoorMh09
import Derived.Test.YtpkpgmnbheenbaaGreatDoorMh16
import Derived.Test.YtpkpgmnbheenbaaGreatDoorMh21
import Derived.Test.YtpkpgmnbheenbaaGreatDoorMh22
import Derived.Test.YtpkpgmnbheenbaaGreatDoorMh25
import Derived.Test.YtpkpgmnbheenbaaGreatDoorMh27
import Derived.Deep.RegionWith
import Derived.Deep.DeepCutAuto
import Derived.Deep.CutBlock
import Derived.ChangeMaps5
import Derived.Test.YtpkpgmnbheenbaaGreatDoorTie
import Derived.Test.YtpkpgmnbheenbaaGreatDoorCards
import Derived.SevenTiedAt
namespace Go.Proofs.YtpkpgmnbheenbaaGreatDoor
open Go.RowKit
set_option linter.unusedVariables false
set_option linter.unusedSimpArgs false
set_option maxHeartbeats 8000000
set_option maxRecDepth 100000
def alT_a:ByteArray:=⟨#[102,110,32,102,40,101,100,105,116,32,98,41,32,123,32,118,105,101,119,32,118,32,61,32,98,91,48,32,46,46,32,49,93,32,123,32,98,91,48,93,32,61,32,118,91,48,93,59,32,125,32,125,59]⟩
def alF_a:List Fu:=[⟨⟨#[102]⟩,[⟨⟨#[98]⟩,true,false,true⟩],[.mk 8 ⟨#[118]⟩ ⟨#[98]⟩ false false [.mk 1 0 ⟨#[]⟩ 0 [],.mk 1 1 ⟨#[]⟩ 0 []] [] [.mk 4 ⟨#[98]⟩ ⟨#[]⟩ false false [.mk 1 0 ⟨#[]⟩ 0 [],.mk 5 0 ⟨#[118]⟩ 0 [.mk 1 0 ⟨#[]⟩ 0 []]] [] [] []] []],false,[]⟩]
def alT_b:ByteArray:=⟨#[102,110,32,102,40,101,100,105,116,32,98,41,32,123,32,101,100,105,116,32,118,32,61,32,98,91,48,32,46,46,32,49,93,32,123,32,118,91,48,93,32,61,32,35,98,59,32,125,32,125,59]⟩
def alF_b:List Fu:=[⟨⟨#[102]⟩,[⟨⟨#[98]⟩,true,false,true⟩],[.mk 8 ⟨#[118]⟩ ⟨#[98]⟩ false true [.mk 1 0 ⟨#[]⟩ 0 [],.mk 1 1 ⟨#[]⟩ 0 []] [] [.mk 4 ⟨#[118]⟩ ⟨#[]⟩ false false [.mk 1 0 ⟨#[]⟩ 0 [],.mk 4 0 ⟨#[98]⟩ 0 []] [] [] []] []],false,[]⟩]
def alT_c:ByteArray:=⟨#[102,110,32,102,40,101,100,105,116,32,98,41,32,123,32,101,100,105,116,32,118,32,61,32,98,91,48,32,46,46,32,49,93,32,123,32,118,91,48,93,32,61,32,49,59,32,125,32,98,91,48,93,32,61,32,50,59,32,125,59]⟩
def alF_c:List Fu:=[⟨⟨#[102]⟩,[⟨⟨#[98]⟩,true,false,true⟩],[.mk 8 ⟨#[118]⟩ ⟨#[98]⟩ false true [.mk 1 0 ⟨#[]⟩ 0 [],.mk 1 1 ⟨#[]⟩ 0 []] [] [.mk 4 ⟨#[118]⟩ ⟨#[]⟩ false false [.mk 1 0 ⟨#[]⟩ 0 [],.mk 1 1 ⟨#[]⟩ 0 []] [] [] []] [],.mk 4 ⟨#[98]⟩ ⟨#[]⟩ false false [.mk 1 0 ⟨#[]⟩ 0 [],.mk 1 2 ⟨#[]⟩ 0 []] [] [] []],false,[]⟩]
def alT_d:ByteArray:=⟨#[102,110,32,102,40,101,100,105,116,32,97,44,32,118,105,101,119,32,98,41,32,123,125,59,32,102,110,32,103,40,101,100,105,116,32,120,41,32,123,32,99,97,108,108,32,102,40,59,32,120,44,32,120,41,59,32,125,59]⟩
def alF_d:List Fu:=[⟨⟨#[102]⟩,[⟨⟨#[97]⟩,true,false,true⟩,⟨⟨#[98]⟩,true,false,false⟩],[],false,[]⟩,⟨⟨#[103]⟩,[⟨⟨#[120]⟩,true,false,true⟩],[.mk 11 ⟨#[]⟩ ⟨#[102]⟩ false false [] [⟨#[120]⟩,⟨#[120]⟩] [] []],false,[]⟩]
theorem alP_a:parseQ alT_a=some alF_a:=by kernel_rfl
theorem alC_a:errV (layM alF_a 3)=faultV 2 130:=by kernel_rfl
theorem alZ_a:Fu.sizes alF_a≤900:=by rw[show Fu.sizes alF_a=_ from rfl];decide
theorem alP_b:parseQ alT_b=some alF_b:=by kernel_rfl
theorem alC_b:errV (layM alF_b 3)=faultV 2 130:=by kernel_rfl
theorem alZ_b:Fu.sizes alF_b≤900:=by rw[show Fu.sizes alF_b=_ from rfl];decide
theorem alP_c:parseQ alT_c=some alF_c:=by kernel_rfl
theorem alC_c:errV (layM alF_c 3)= .nilIface:=by kernel_rfl
theorem alZ_c:Fu.sizes alF_c≤900:=by rw[show Fu.sizes alF_c=_ from rfl];decide
theorem alP_d:parseQ alT_d=some alF_d:=by kernel_rfl
theorem alC_d:errV (layM alF_d 3)=faultV 3 130:=by kernel_rfl
theorem alZ_d:Fu.sizes alF_d≤900:=by rw[show Fu.sizes alF_d=_ from rfl];decide
theorem toldT_any (s:ByteArray) (xs:List Fu) (r:Int×Int) (w:World) (hp:parseQ s=some xs) (hl:errV (layM xs 3)=errV r) (hz:Fu.sizes xs≤900) (h16:xs.length≤16) (hg:w.cell? ⟨0,0,none⟩=some (rty 30)):
  Calls Tryz.prog 52 #[.string s,.int .i64 r.1,.int .i64 r.2] w fun e w'=>e= .returned (.bool true)∧Fr Non w w':=by
 have HG:=Zh hg;clear hg;have HP:=Zh (qparsed_any s xs w hp);clear hp;have HL:=Zh hl;clear hl;go_enter Tryz.func52,Tryz.ntmps52;go_wp2_with fail;refine HP.out.mono ?_;rintro e w2 ⟨A,c,rfl,hc,hf2,hr2⟩;have F2:=Zh hf2;have S2:=Zh (lay3_any xs _ A c w2 hr2 (by unfold reach;omega) hc hz fun q hq=>hq.2);clear hf2 hr2 hc HP;go_wp2_with fail;refine S2.out.mono ?_;rintro e w3 ⟨rfl,hf3⟩;rw[HL.out];have F3:=Zh (F2.out.trans hf3);clear hf3 S2 F2;have T3:=Zh (told_any r w3 (F3.out.cell' HG.out (non _)));obtain⟨v,hv⟩:∃v,errV r=v:=⟨_,rfl⟩;rw[hv] at T3 ⊢;clear hv;go_wp2_with fail;refine T3.out.mono ?_;rintro e w4 ⟨rfl,hf4⟩;have F4:=Zh (F3.out.trans hf4);clear hf4 T3 F3;go_wp2_with fail;go_ret;exact⟨rfl,F4.out⟩
theorem alive_any (w:World) (hg:w.cell? ⟨0,0,none⟩=some (rty 30)):Calls Tryz.prog 25 #[] w fun e w'=>e= .returned (.bool true)∧Fr Non w w':=by
 have HG:=Zh hg;clear hg;have hq0:=Zh (fun w=>toldT_any alT_a alF_a (2,130) w alP_a (by rw[alC_a];rfl) alZ_a (by decide));have hq1:=Zh (fun w=>toldT_any alT_b alF_b (2,130) w alP_b (by rw[alC_b];rfl) alZ_b (by decide));have hq2:=Zh (fun w=>toldT_any alT_c alF_c (0,0) w alP_c (by rw[alC_c];rfl) alZ_c (by decide));have hq3:=Zh (fun w=>toldT_any alT_d alF_d (3,130) w alP_d (by rw[alC_d];rfl) alZ_d (by decide));simp only[alT_a,alT_b,alT_c,alT_d] at hq0 hq1 hq2 hq3;go_enter Tryz.func25,Tryz.ntmps25;go_wp2_with fail;refine(hq0.out _ HG.out).mono ?_;rintro e w1 ⟨rfl,hf⟩;have F1:=Zh hf;clear hf;go_wp2_with fail;refine(hq1.out _ (F1.out.cell' HG.out (non _))).mono ?_;rintro e w2 ⟨rfl,hf⟩;have F2:=Zh (F1.out.trans hf);clear hf;go_wp2_with fail;refine(hq2.out _ (F2.out.cell' HG.out (non _))).mono ?_;rintro e w3 ⟨rfl,hf⟩;have F3:=Zh (F2.out.trans hf);clear hf;go_wp2_with fail;refine(hq3.out _ (F3.out.cell' HG.out (non _))).mono ?_;rintro e w4 ⟨rfl,hf⟩;have F4:=Zh (F3.out.trans hf);clear hf;go_wp2_with fail;go_ret;exact⟨rfl,F4.out⟩
def Fu.mus:List Fu→Int→Int×Bool×Bool
 |[],n=>(n,false,false)
 |f::l,n=>if(St.mus f.body n).2.2=true then St.mus f.body n else Fu.mus l (St.mus f.body n).1
theorem fmus_app:∀(l r:List Fu) (n:Int),Fu.mus (l++r) n=if(Fu.mus l n).2.2=true then Fu.mus l n else Fu.mus r (Fu.mus l n).1
 |[],r,n=>by rw[List.nil_append,Fu.mus,if_neg Bool.false_ne_true]
 |s::l,r,n=>by
  rw[List.cons_append,Fu.mus,Fu.mus];by_cases h:(St.mus s.body n).2.2=true
  ·rw[if_pos h,if_pos h,if_pos h]
  ·rw[if_neg h,if_neg h];exact fmus_app l r _
theorem fmus_snoc (P:List Fu) (j:Nat) (h:j<P.length) (n:Int) (hn:(Fu.mus (P.take j) n).2.2=false):Fu.mus (P.take (j+1)) n=St.mus P[j].body (Fu.mus (P.take j) n).1:=by
 rw[List.take_succ_eq_append_getElem h,fmus_app,hn,if_neg Bool.false_ne_true,Fu.mus];by_cases h2:(St.mus P[j].body (Fu.mus (P.take j) n).1).2.2=true
 ·rw[if_pos h2]
 ·rw[if_neg h2,Fu.mus];exact(mus_no (by simpa using h2)).symm
theorem fmus_done (P:List Fu) (j:Nat) (n:Int) (h:(Fu.mus (P.take j) n).2.2=true):Fu.mus P n=Fu.mus (P.take j) n:=by
 conv=>lhs;rw[←List.take_append_drop j P]
 rw[fmus_app,if_pos h]
theorem fmus_bd:∀(P:List Fu) (n:Int),0≤n→0≤(Fu.mus P n).1∧(Fu.mus P n).1≤n
 |[],n,h=>by rw[Fu.mus];exact⟨h,Int.le_refl _⟩
 |f::l,n,h=>by
  rw[Fu.mus];have h1:=mus_bd f.body n h;by_cases h2:(St.mus f.body n).2.2=true
  ·rw[if_pos h2];exact h1
  ·rw[if_neg h2];have h3:=fmus_bd l _ h1.1;exact⟨h3.1,Int.le_trans h3.2 h1.2⟩
theorem feds_dn (c:EdC):∀(l:List Fu) (e:EdS),e.done=true→(Fu.eds c l e).2.done=true∧(Fu.eds c l e).2.fl=e.fl
 |[],e,h=>by rw[Fu.eds];exact⟨h,rfl⟩
 |f::l,e,h=>by
  rw[Fu.eds];have h1:(f.ed c e).2=⟨e.K,e.n+St.sizes f.body+2,e.at_,e.done,e.fl⟩:=by
   unfold Fu.ed;rw[eds_done c f.body e h]
  simp only;rw[h1];exact feds_dn c l _ h
theorem fmus_ed (c:EdC) (hk:c.kd.toNat=8) (hi:c.inside=true) (hx:c.extra=false):∀(P:List Fu) (e:EdS),e.done=false→(Fu.eds c P e).2.done=(Fu.mus P e.K).2.2∧((Fu.mus P e.K).2.2=true→(Fu.eds c P e).2.fl=(Fu.mus P e.K).2.1)
 |[],e,h=>by rw[Fu.eds,Fu.mus];exact⟨h,fun h=>(by cases h)⟩
 |f::l,e,h=>by
  have m:=mus_ed c hk hi hx f.body e h;rw[Fu.eds,Fu.mus];simp only;have e2:(f.ed c e).2=⟨(St.eds c f.body e).2.K,(St.eds c f.body e).2.n+2,(St.eds c f.body e).2.at_,(St.eds c f.body e).2.done,(St.eds c f.body e).2.fl⟩:=rfl;by_cases h2:(St.mus f.body e.K).2.2=true
  ·rw[if_pos h2];rw[h2] at m;have d:=feds_dn c l (f.ed c e).2 (by rw[e2];exact m.1);exact⟨by rw[d.1,h2],fun _=>by rw[d.2,e2];exact m.2.1 rfl⟩
  ·have h2':(St.mus f.body e.K).2.2=false:=by simpa using h2
   rw[if_neg h2];rw[h2'] at m;have ih:=fmus_ed c hk hi hx l (f.ed c e).2 (by rw[e2];exact m.1);rw[show(f.ed c e).2.K=(St.mus f.body e.K).1 by rw[e2];exact m.2.2 rfl] at ih;exact ih
theorem within_any (P:List Fu) (k h:UInt8) (ok:Nat→Prop) (A:Option Addr) (c:Nat) (w:World) (hr:RdRows ok w 5 A 0 (P.map Fu.d)) (hc:P.length*96≤reach) (hpc:P.length≤c) (hok:∀q,ok q→q<w.heap.size) (hg:w.cell? ⟨0,0,none⟩=some (rty 30)):
  Calls Tryz.prog 8 #[.agg #[.slice A P.length c],.int .u8 k.toNat,.int .u8 h.toNat] w fun e w'=>e= .returned (.bool true)∧Fr Non w w':=by
 obtain⟨W1,HW1⟩:∃W1,W1=w.alloc (.cells #[.slice A P.length c] 24):=⟨_,rfl⟩;have hf1:Fr Non w W1:=by rw[HW1];exact(Zf w).alloc _
 have B1:=Zh (show W1.heap[w.heap.size]? =some (.cells #[.slice A P.length c] 24 (0,0)) by rw[HW1];exact blk_new _ _ _);have R1:=Zh (hr.fr hf1 (fun _ _=>non _) fun _ h=>h);have G1:=Zh (hf1.cell' hg (non _));have F1:=Zh hf1;have hok1:=Zh (show∀q,ok q→q<W1.heap.size from fun q hq=>by have:=hok q hq;have:=hf1.size;omega);have HOK0:=Zh hok;clear hf1 hr hg;have x1:=(Zc B1.out).1 0 _ rfl;have HC:=Zh hc;have HPC:=Zh hpc
 clear hc hpc hok;go_enter Tryz.func8,Tryz.ntmps8;go_upto_region 1 with fail;rw[←HW1];clear HW1;go_wp2_with fail;refine(large08_any P ok A c W1 R1.out HC.out hok1.out).mono ?_;rintro e w2 ⟨⟨b,rfl,hb⟩,hf2⟩;have F2:=Zh (F1.out.trans hf2);have G2:=Zh (hf2.cell' G1.out (non _));have R2:=Zh (R1.out.fr hf2 (fun _ _=>non _) fun _ h=>h);have B2:=Zh (Zb B1.out hf2 (non _));have hok2:=Zh (show∀q,ok q→q<w2.heap.size from fun q hq=>by have:=hok1.out q hq;have:=hf2.size;omega);clear hf2 F1 G1 R1 B1 x1;cases b
 case true=>
  go_wp2_with fail;refine(alive_any w2 G2.out).mono ?_;rintro e w3 ⟨rfl,hf3⟩;have F3:=Zh (F2.out.trans hf3);clear hf3;go_wp2_with fail;go_ret;exact⟨rfl,F3.out⟩
 case false=>
  obtain⟨hl30,hs9,_⟩:=hb rfl;have HS:=Zh hs9;have HL30:=Zh hl30;clear hs9 hb hl30
  have x2:=(Zc B2.out).1 0 _ rfl;go_wp2_with fail;refine(copyP_own P ok A c w2 hok2.out R2.out HPC.out HC.out).mono ?_;rintro e w3 ⟨A',c',rfl,hf3,hc',how3⟩;have hr3:=how3.rows;have F3:=Zh (F2.out.trans hf3);have G3:=Zh (hf3.cell' G2.out (non _));have R3:=Zh (R2.out.fr hf3 (fun _ _=>non _) fun _ h=>h);have B3:=Zh (Zb B2.out hf3 (non _));have hok3:=Zh (show∀q,ok q→q<w3.heap.size from fun q hq=>by have:=hok2.out q hq;have:=hf3.size;omega);have O3:=Zh hr3;have HPC':=Zh hc';clear hf3 hr3 how3 F2 G2 R2 B2 hok2 hc' x2;go_wp2_with fail;refine(lay3_any P _ A' c' w3 O3.out HC.out HPC'.out HS.out (fun q hq=>hq.2)).mono ?_;rintro e w4 ⟨rfl,hf4⟩;have F4:=Zh (F3.out.trans hf4);have G4:=Zh (hf4.cell' G3.out (non _));have R4:=Zh (R3.out.fr hf4 (fun _ _=>non _) fun _ h=>h);have B4:=Zh (Zb B3.out hf4 (non _));have hok4:=Zh (show∀q,ok q→q<w4.heap.size from fun q hq=>by have:=hok3.out q hq;have:=hf4.size;omega);clear hf4 F3 G3 R3 B3 hok3 O3;by_cases h0:(layM P 3).2=0
  ·rw[show errV (layM P 3)= .nilIface by rw[errV,if_pos h0]];have H0:=Zh h0;clear h0;obtain⟨K,hK⟩:∃K:Nat,K=k.toNat%8:=⟨_,rfl⟩;have hK8:K<8:=by omega
   have hKi:((k.toNat:Int)).tmod 8=(K:Int):=by rw[hK];exact rem_u8 k 8 (by decide) (by decide)
   have HK:=Zh hK;clear hK;obtain⟨zb,hzb⟩:∃b,b=w4.heap.size:=⟨_,rfl⟩;obtain⟨V3,HV3⟩:∃W,W=w4.alloc (.cells #[.int .u8 1,.int .u64 0,.string ⟨#[]⟩,.int .u8 0,.slice none 0 0] 48):=⟨_,rfl⟩;have hv3:Fr Non w4 V3:=by rw[HV3];exact(Zf w4).alloc _
   have hz3:V3.heap[zb]? =some (.cells #[.int .u8 1,.int .u64 0,.string ⟨#[]⟩,.int .u8 0,.slice none 0 0] 48 (0,0)):=by rw[HV3,hzb];exact blk_new _ _ _
   have hs3:V3.heap.size=w4.heap.size+1:=by rw[HV3];simp
   have Z3:=Zh hz3;have HV:=Zh hv3;have HS3:=Zh hs3;have HZB:=Zh hzb
   clear hz3 hs3 hv3 hzb;have z0:=(Zc Z3.out).1 0 _ rfl;have z1:=(Zc Z3.out).1 1 _ rfl;have z2:=(Zc Z3.out).1 2 _ rfl;have z3:=(Zc Z3.out).1 3 _ rfl;have z4:=(Zc Z3.out).1 4 _ rfl;go_upto_region 4 with fail;rw[←HZB.out,←HV3];clear HV3;obtain⟨H,hH⟩:∃H:Nat,H=h.toNat%4:=⟨_,rfl⟩;have hH4:H<4:=by omega
   have hHi:((h.toNat:Int)).tmod 4=(H:Int):=by rw[hH];exact rem_u8 h 4 (by decide) (by decide)
   have HH:=Zh hH;clear hH;have HKS:=Zh (And.intro hK8 hKi);clear hK8 hKi;obtain⟨okp,hokp⟩:∃o:Nat→Prop,o=fun k=>V3.heap.size≤k∧k<V3.heap.size+4:=⟨_,rfl⟩;obtain⟨sb,hsb⟩:∃b,b=V3.heap.size+4:=⟨_,rfl⟩;have HOKP:=Zh hokp;have HSB:=Zh hsb;clear hokp hsb
   go_cut [8] (fun v8 wx=>v8= .pointer (some ⟨sb,0,none⟩)∧Fr Non V3 wx∧wx.heap.size=sb+1∧∃p,PutAt okp wx (putH H) p sb)
   case first=>
    have g1:Fr Non V3 (V3.alloc (.cells #[.int .u8 1,.int .u64 0,.string ⟨#[]⟩,.int .u8 0,.slice none 0 0,.int .u8 1,.int .u64 0,.string ⟨#[]⟩,.int .u8 0,.slice none 0 0] 48)):=(Zf V3).alloc _;have q10:(V3.alloc (.cells #[.int .u8 1,.int .u64 0,.string ⟨#[]⟩,.int .u8 0,.slice none 0 0,.int .u8 1,.int .u64 0,.string ⟨#[]⟩,.int .u8 0,.slice none 0 0] 48)).cell? ⟨zb,0,none⟩=some (.int .u8 1):=g1.cell' z0 (non _);have q11:(V3.alloc (.cells #[.int .u8 1,.int .u64 0,.string ⟨#[]⟩,.int .u8 0,.slice none 0 0,.int .u8 1,.int .u64 0,.string ⟨#[]⟩,.int .u8 0,.slice none 0 0] 48)).cell? ⟨zb,1,none⟩=some (.int .u64 0):=g1.cell' z1 (non _);have q12:(V3.alloc (.cells #[.int .u8 1,.int .u64 0,.string ⟨#[]⟩,.int .u8 0,.slice none 0 0,.int .u8 1,.int .u64 0,.string ⟨#[]⟩,.int .u8 0,.slice none 0 0] 48)).cell? ⟨zb,2,none⟩=some (.string ⟨#[]⟩):=g1.cell' z2 (non _);have q13:(V3.alloc (.cells #[.int .u8 1,.int .u64 0,.string ⟨#[]⟩,.int .u8 0,.slice none 0 0,.int .u8 1,.int .u64 0,.string ⟨#[]⟩,.int .u8 0,.slice none 0 0] 48)).cell? ⟨zb,3,none⟩=some (.int .u8 0):=g1.cell' z3 (non _);have q14:(V3.alloc (.cells #[.int .u8 1,.int .u64 0,.string ⟨#[]⟩,.int .u8 0,.slice none 0 0,.int .u8 1,.int .u64 0,.string ⟨#[]⟩,.int .u8 0,.slice none 0 0] 48)).cell? ⟨zb,4,none⟩=some (.slice none 0 0):=g1.cell' z4 (non _);clear g1;have g2:Fr Non V3 ((V3.alloc (.cells #[.int .u8 1,.int .u64 0,.string ⟨#[]⟩,.int .u8 0,.slice none 0 0,.int .u8 1,.int .u64 0,.string ⟨#[]⟩,.int .u8 0,.slice none 0 0] 48)).alloc (.cells #[.int .u8 1,.int .u64 0,.string ⟨#[]⟩,.int .u8 0,.slice none 0 0,.int .u8 1,.int .u64 0,.string ⟨#[]⟩,.int .u8 0,.slice none 0 0] 48)):=((Zf V3).alloc _).alloc _;have q20:((V3.alloc (.cells #[.int .u8 1,.int .u64 0,.string ⟨#[]⟩,.int .u8 0,.slice none 0 0,.int .u8 1,.int .u64 0,.string ⟨#[]⟩,.int .u8 0,.slice none 0 0] 48)).alloc (.cells #[.int .u8 1,.int .u64 0,.string ⟨#[]⟩,.int .u8 0,.slice none 0 0,.int .u8 1,.int .u64 0,.string ⟨#[]⟩,.int .u8 0,.slice none 0 0] 48)).cell? ⟨zb,0,none⟩=some (.int .u8 1):=g2.cell' z0 (non _);have q21:((V3.alloc (.cells #[.int .u8 1,.int .u64 0,.string ⟨#[]⟩,.int .u8 0,.slice none 0 0,.int .u8 1,.int .u64 0,.string ⟨#[]⟩,.int .u8 0,.slice none 0 0] 48)).alloc (.cells #[.int .u8 1,.int .u64 0,.string ⟨#[]⟩,.int .u8 0,.slice none 0 0,.int .u8 1,.int .u64 0,.string ⟨#[]⟩,.int .u8 0,.slice none 0 0] 48)).cell? ⟨zb,1,none⟩=some (.int .u64 0):=g2.cell' z1 (non _);have q22:((V3.alloc (.cells #[.int .u8 1,.int .u64 0,.string ⟨#[]⟩,.int .u8 0,.slice none 0 0,.int .u8 1,.int .u64 0,.string ⟨#[]⟩,.int .u8 0,.slice none 0 0] 48)).alloc (.cells #[.int .u8 1,.int .u64 0,.string ⟨#[]⟩,.int .u8 0,.slice none 0 0,.int .u8 1,.int .u64 0,.string ⟨#[]⟩,.int .u8 0,.slice none 0 0] 48)).cell? ⟨zb,2,none⟩=some (.string ⟨#[]⟩):=g2.cell' z2 (non _);have q23:((V3.alloc (.cells #[.int .u8 1,.int .u64 0,.string ⟨#[]⟩,.int .u8 0,.slice none 0 0,.int .u8 1,.int .u64 0,.string ⟨#[]⟩,.int .u8 0,.slice none 0 0] 48)).alloc (.cells #[.int .u8 1,.int .u64 0,.string ⟨#[]⟩,.int .u8 0,.slice none 0 0,.int .u8 1,.int .u64 0,.string ⟨#[]⟩,.int .u8 0,.slice none 0 0] 48)).cell? ⟨zb,3,none⟩=some (.int .u8 0):=g2.cell' z3 (non _);have q24:((V3.alloc (.cells #[.int .u8 1,.int .u64 0,.string ⟨#[]⟩,.int .u8 0,.slice none 0 0,.int .u8 1,.int .u64 0,.string ⟨#[]⟩,.int .u8 0,.slice none 0 0] 48)).alloc (.cells #[.int .u8 1,.int .u64 0,.string ⟨#[]⟩,.int .u8 0,.slice none 0 0,.int .u8 1,.int .u64 0,.string ⟨#[]⟩,.int .u8 0,.slice none 0 0] 48)).cell? ⟨zb,4,none⟩=some (.slice none 0 0):=g2.cell' z4 (non _);clear g2;rcases(show H=0∨H=1∨H=2∨H=3 by omega) with rfl|rfl|rfl|rfl
    ·go_wp2_with fail
     go_meet
     exact put_fin V3 0 ⟨some ⟨V3.heap.size,0,none⟩,none,none,none,2,0,0,0⟩ _ _ HOKP.out HSB.out rfl (.inl ⟨by decide,rfl⟩)
    ·go_wp2_with fail
     go_meet
     exact put_fin V3 1 ⟨some ⟨V3.heap.size+1,0,none⟩,none,none,none,2,0,0,0⟩ _ _ HOKP.out HSB.out rfl (.inl ⟨by decide,rfl⟩)
    ·go_wp2_with fail
     go_meet
     exact put_fin V3 2 ⟨some ⟨V3.heap.size+2,0,none⟩,none,none,none,2,0,0,0⟩ _ _ HOKP.out HSB.out rfl (.inl ⟨by decide,rfl⟩)
    ·go_wp2_with fail
     go_meet
     exact put_fin V3 3 ⟨none,none,none,none,0,0,0,0⟩ _ _ HOKP.out HSB.out rfl (.inr ⟨by decide,rfl⟩)
   case rest=>
   obtain⟨rfl,hfx,hszx,pd,hput⟩:=hcut;obtain⟨V4,rfl⟩:∃x:World,x=wc:=⟨_,rfl⟩;clear z0 z1 z2 z3 z4 hHi;obtain⟨hK8,hKi⟩:=HKS.out;obtain⟨x,hx⟩:∃x,x=putH H:=⟨_,rfl⟩;rw[←hx] at hput;have HX:=Zh hx;clear hx;obtain⟨hpb,hrd,hpz⟩:=hput;unfold stC at hpb;have s0:=(Zc hpb).1 0 _ rfl;have s1:=(Zc hpb).1 1 _ rfl;have s2:=(Zc hpb).1 2 _ rfl;have s3:=(Zc hpb).1 3 _ rfl;have s4:=(Zc hpb).1 4 _ rfl;have s5:=(Zc hpb).1 5 _ rfl;have s6:=(Zc hpb).1 6 _ rfl;have s7:=(Zc hpb).1 7 _ rfl;have s8:=(Zc hpb).1 8 _ rfl;obtain⟨eb,heb⟩:∃b,b=V4.heap.size:=⟨_,rfl⟩;obtain⟨W5,HW5⟩:∃W,W=V4.alloc (.cells #[.int .u8 8,.int .i64 K,vu8 x.kind,.string x.name,.string x.frm,.bool x.sec,.bool x.mt,.slice pd.B1 x.ex.length pd.d1,.slice pd.B2 x.args.length pd.d2,.slice pd.B3 x.body.length pd.d3,.slice pd.B4 x.els.length pd.d4,.bool true,.bool false,.int .i64 0,.bool false,.int .i64 0] 44):=⟨_,rfl⟩;obtain⟨e0,he0⟩:∃e:EdS,e=⟨K,0,0,false,false⟩:=⟨_,rfl⟩;have hf5':Fr Non V4 W5:=by rw[HW5];exact(Zf V4).alloc _
   have hf5:Fr Non w4 W5:=(HV.out.trans hfx).trans hf5';have E5:=Zh (show EdAt eb ⟨8,x,true,false⟩ pd W5 e0 by rw[HW5,heb,he0];exact blk_new _ _ _);have hz5:0<eb∧w.heap.size<eb:=by have:=blk_lt B4.out;have:=HV.out.size;have:=hfx.size;omega
   obtain⟨okr,hokr⟩:∃o:Nat→Prop,o=fun k=>ok k∨okp k:=⟨_,rfl⟩;have hokr5:∀q,okr q→q<W5.heap.size∧q≠eb:=fun q hq=>by
    rw[hokr] at hq;have h5:=hf5.size;have h6:=hf5'.size;have h7:=HV.out.size;have h8:=hfx.size
    rcases hq with hq|hq
    ·have:=hok4.out q hq;omega
    ·rw[HOKP.out] at hq;have:=hq.1;have:=hq.2;have:=HSB.out;omega
   have hrd5:StRd okr W5 x pd.B1 pd.B2 pd.B3 pd.B4 pd.d1 pd.d2 pd.d3 pd.d4:=(hrd.fr hf5' (fun _ _=>non _)).imp fun k hk=>by rw[hokr];exact .inr hk
   have hrp5:RdRows okr W5 5 A 0 (P.map Fu.d):=R4.out.fr hf5 (fun _ _=>non _) fun k hk=>by rw[hokr];exact .inl hk
   have PG:=Zh (prog_in ⟨8,x,true,false⟩ rfl rfl pd eb P e0 okr A c W5 (may_oks (lay_may H0.out)) (by have:=HS.out;omega) (by have:=HL30.out;omega) (by rw[he0];exact⟨Int.le_refl _,by have:=HS.out;have:=HL30.out;show(0:Int)+2*((Fu.sizes P+P.length:Nat):Int)≤100000;omega,by have:=HS.out;have:=HL30.out;show -100000≤(K:Int)-((Fu.sizes P+P.length:Nat):Int);omega,by show(K:Int)≤100000;omega⟩)
    hokr5 E5.out hrd5 hrp5 HPC.out HC.out)
   have LAW:=Zh (show(layM (Fu.eds ⟨8,x,true,false⟩ P e0).1 2).2=0→(Fu.eds ⟨8,x,true,false⟩ P e0).2.done=true→((H≠0∨(Fu.eds ⟨8,x,true,false⟩ P e0).2.fl=true)→layM (Fu.eds ⟨8,x,true,false⟩ P e0).1 3=((Fu.eds ⟨8,x,true,false⟩ P e0).2.at_,130))∧(H=0→(Fu.eds ⟨8,x,true,false⟩ P e0).2.fl=false→layM (Fu.eds ⟨8,x,true,false⟩ P e0).1 3=(0,0)) from fun hq hd=>by
    rw[HX.out] at hq hd ⊢;by_cases h0:H=0
    ·rw[h0] at hq hd ⊢;have hr:=law_read (P:=P) (e0:=e0) (by rw[he0]) (by rw[he0]) H0.out hq hd;exact⟨fun h=>by
      rcases h with h|h
      ·exact absurd rfl h
      ·exact hr.trans (if_pos h),fun _ h=>hr.trans (if_neg (by rw[show(Fu.eds ⟨8,putV false,true,false⟩ P e0).2.fl=false from h];decide))⟩
    ·exact⟨fun _=>law_within (P:=P) (e0:=e0) (by rw[he0]) (by rw[he0]) (putH H) (put_within H h0) H0.out hq hd,fun h=>absurd h h0⟩)
   have MUS:=Zh (show(Fu.eds ⟨8,x,true,false⟩ P e0).2.done=(Fu.mus P K).2.2∧((Fu.mus P K).2.2=true→(Fu.eds ⟨8,x,true,false⟩ P e0).2.fl=(Fu.mus P K).2.1) by
    have:=fmus_ed ⟨8,x,true,false⟩ rfl rfl rfl P e0 (by rw[he0]);rw[show e0.K=(K:Int) by rw[he0]] at this;exact this)
   have R5:=Zh (R4.out.fr hf5 (fun _ _=>non _) fun _ h=>h);have HOKE:=Zh (show∀q,ok q→q<W5.heap.size∧q≠eb from fun q hq=>hokr5 q (by rw[hokr];exact .inl hq));clear hrd hrd5 hrp5 hpb hfx hszx hf5';have hlq:=feds_length ⟨8,x,true,false⟩ P e0;have hsq:=feds_size ⟨8,x,true,false⟩ rfl P e0;rw[show(⟨8,x,true,false⟩:EdC).put.size=1 from hpz] at hsq;obtain⟨Q,e6,hQ⟩:∃Q e6,Fu.eds ⟨8,x,true,false⟩ P e0=(Q,e6):=⟨_,_,rfl⟩;rw[hQ] at PG LAW MUS hlq hsq;simp only at PG LAW MUS hlq hsq;have HSQ:=Zh (show Fu.sizes Q≤1099511627776 by have:=HS.out;omega);have HLQ:=Zh hlq;have HEB:=Zh heb;have F5:=Zh (F4.out.trans hf5);have G5:=Zh (hf5.cell' G4.out (non _));have B5:=Zh (Zb B4.out hf5 (non _));have HZ5:=Zh hz5
   have hok5:=Zh hokr5;clear hf5 hz5 hlq hsq hpz hQ he0 R4 G4 F4 hok4 hokr5 hokr;have x5:W5.cell? ⟨w.heap.size,0,none⟩=some (.slice A P.length c):=(Zc B5.out).1 0 _ rfl;go_upto_region 6 with fail;rw[←HW5,←HEB.out];clear HW5 heb;clear s0 s1 s2 s3 s4 s5 s6 s7 s8;go_wp2_with fail;refine PG.out.mono ?_;rintro e w6 ⟨A6,c6,rfl,hf6,hed6,hc6,how6⟩;clear PG x5;obtain⟨nq,hnq⟩:∃n,n=P.length:=⟨_,rfl⟩;rw[←HLQ.out] at how6 hc6;obtain⟨w7,HW7⟩:∃W,W=w6.alloc (.cells #[.slice A6 P.length c6] 24):=⟨_,rfl⟩;obtain⟨qb,hqb⟩:∃b,b=w6.heap.size:=⟨_,rfl⟩;have hf7:Fr Non w6 w7:=by rw[HW7];exact(Zf w6).alloc _
   have hq7:w7.heap[qb]? =some (.cells #[.slice A6 P.length c6] 24 (0,0)):=by rw[HW7,hqb];exact blk_new _ _ _
   have F7:=Zh (show Fr Non w w7 from((F5.out.then hf6 (fun k hk h=>by have h:k=eb:=h;have:=HZ5.out;omega))).trans hf7);have G7:=Zh (hf7.cell' (hf6.cell' G5.out (fun h=>by have h:0=eb:=h;have:=HZ5.out;omega)) (non _));have E7:=Zh (hed6.fr hf7 (non _));have Q7:=Zh (show w7.heap[qb]? =some (.cells #[.slice A6 Q.length c6] 24 (0,0)) by rw[HLQ.out];exact hq7);have B7:=Zh (Zb (Zb B5.out hf6 (fun h=>by have h:w.heap.size=eb:=h;have:=HZ5.out;omega)) hf7 (non _));have R7:=Zh ((R5.out.fr hf6 (fun k hk h=>(HOKE.out k hk).2 h) fun _ h=>h).fr hf7 (fun _ _=>non _) fun _ h=>h);obtain⟨okq,hokq0⟩:∃o:Nat→Prop,o=fun k=>okr k∨W5.heap.size+5≤k∧k<w6.heap.size:=⟨_,rfl⟩;have RQ7:=Zh (show RdRows okq w7 5 A6 0 (Q.map Fu.d) by rw[hokq0];exact how6.rows.fr hf7 (fun _ _=>non _) fun _ h=>h);have hokq:=Zh (show∀k,okq k→k<w7.heap.size from fun k hk=>by
    rw[hokq0] at hk;have h1:=hf6.size;have h2:=hf7.size
    rcases hk with hk|hk
    ·have:=(hok5.out k hk).1;omega
    ·omega)
   have HCQ:=Zh (show Q.length*96≤reach by have:=HL30.out;have:=HLQ.out;unfold reach;omega);have HC6:=Zh hc6;have HQB:=Zh hqb
   clear hf6 hf7 hq7 hed6 how6 hc6 F5 G5 B5 R5 hok5 hqb hokq0 hnq;go_upto_region 7 with fail;rw[←HQB.out,←HW7];clear HW7;have x7:w7.cell? ⟨w.heap.size,0,none⟩=some (.slice A P.length c):=(Zc B7.out).1 0 _ rfl;have hPL:P.length≤30:=HL30.out;go_wp2_with fail
   go_loopw [11,12,13,14] (fun a l d i wr=>∃j:Nat,i= .int .i64 j∧j≤P.length∧Fr Non w7 wr∧a= .int .i64 (Fu.mus (P.take j) K).1∧l= .bool (Fu.mus (P.take j) K).2.1∧d= .bool (Fu.mus (P.take j) K).2.2) (fun _ _ _ i _=>P.length-(intOf i).toNat)
   case atStart=>exact⟨0,rfl,by omega,Zf _,by rw[List.take_zero,Fu.mus],by rw[List.take_zero,Fu.mus],by rw[List.take_zero,Fu.mus]⟩
   case round=>
    obtain⟨j,rfl,hj,hfr,rfl,rfl,rfl⟩:=hrel;obtain⟨wo,rfl⟩:∃wo:World,wo=wr:=⟨_,rfl⟩;clear x7;have x7:wo.cell? ⟨w.heap.size,0,none⟩=some (.slice A P.length c):=(Zc (Zb B7.out hfr (non _))).1 0 _ rfl;obtain⟨⟨m1,m2,m3⟩,hm⟩:∃m,m=Fu.mus (P.take j) K:=⟨_,rfl⟩;have hmb:=fmus_bd (P.take j) K (by omega);have HSN:=Zh (fmus_snoc P j · (K:Int) ·);have HDN:=Zh (fmus_done P j K);rw[←hm] at hmb HSN HDN ⊢;simp only at hmb HSN HDN ⊢;have HM:=Zh hm;clear hm;have HFR:=Zh hfr;clear hfr;cases m3
    ·by_cases hlt:j<P.length
     ·obtain⟨b,o1,A1,c1,A2,c2,A3,c3,rfl,hb,e0,e1,e2,e3,e4,⟨p1,q1,r1⟩,⟨p2,q2,r2⟩,⟨p3,q3,r3⟩⟩:=at_fu (R7.out.fr HFR.out (fun _ _=>non _) (fun _ h=>h)) j hlt;have RB:=Zh r2;clear r1 r2 r3;go_wp2_with fail;refine(mut_any (St.sizes P[j].body) P[j].body ok A2 c2 wo m1 (Nat.le_refl _) hmb.1 (by omega) RB.out q2).mono ?_;rintro e w8 ⟨rfl,hf8⟩;have HF8:=Zh (HFR.out.trans hf8);clear hf8 e0 e1 e2 e3 e4 x7;have hs:=HSN.out hlt trivial;go_wp2_with fail;go_roundw
      case rel=>exact⟨j+1,by go_num,by omega,HF8.out,by rw[hs],by rw[hs],by rw[hs]⟩
      case measure=>simp[intOf];omega
     ·obtain rfl:j=P.length:=by omega
      have hd:e6.done=false:=by
       rw[MUS.out.1];have:=HM.out;rw[List.take_length] at this;rw[←this]
      have x14:=(E7.out.fr HFR.out (non _)).c14;rw[hd] at x14;have G8:=Zh (HFR.out.cell' G7.out (non _));have F8:=Zh (F7.out.trans HFR.out);go_wp2_with fail;refine(alive_any wo G8.out).mono ?_;rintro e w9 ⟨rfl,hf9⟩;have F9:=Zh (F8.out.trans hf9);clear hf9;go_wp2_with fail;go_ret;exact⟨rfl,F9.out⟩
    ·have hfm:=HDN.out rfl;have hd:e6.done=true∧e6.fl=m2:=⟨by rw[MUS.out.1,hfm],by rw[MUS.out.2 (by rw[hfm]),hfm]⟩;have HD:=Zh hd;clear hd hfm hmb;have E8:=Zh (E7.out.fr HFR.out (non _));have G8:=Zh (HFR.out.cell' G7.out (non _));have F8:=Zh (F7.out.trans HFR.out)
     have Q8:=Zh (Zb Q7.out HFR.out (non _));have RQ8:=Zh (RQ7.out.fr HFR.out (fun _ _=>non _) fun _ h=>h)
     have hok8:=Zh (show∀k,okq k→k<wo.heap.size from fun k hk=>Nat.lt_of_lt_of_le (hokq.out k hk) HFR.out.size);clear E7 G7 F7 Q7 RQ7 hokq B7 R7;by_cases hlt:j<P.length;all_goals
      have x14:=E8.out.c14;rw[HD.out.1] at x14;have xq:wo.cell? ⟨qb,0,none⟩=some (.slice A6 Q.length c6):=(Zc Q8.out).1 0 _ rfl;go_wp2_with fail;refine(mayP_any Q okq A6 c6 wo RQ8.out HCQ.out HSQ.out).mono ?_;rintro e w9 ⟨rfl,hf9⟩;have F9:=Zh (F8.out.trans hf9);have G9:=Zh (hf9.cell' G8.out (non _));have E9:=Zh (E8.out.fr hf9 (non _));have Q9:=Zh (Zb Q8.out hf9 (non _));have RQ9:=Zh (RQ8.out.fr hf9 (fun _ _=>non _) fun _ h=>h);have hok9:=Zh (show∀k,okq k→k<w9.heap.size from fun k hk=>Nat.lt_of_lt_of_le (hok8.out k hk) hf9.size);clear hf9 F8 G8 E8 Q8 RQ8 hok8 xq x14 HFR HSN HDN HM;cases hm:mayM Q
      ·go_wp2_with fail;refine(alive_any w9 G9.out).mono ?_;rintro e w10 ⟨rfl,hf10⟩;have F10:=Zh (F9.out.trans hf10);clear hf10;go_wp2_with fail;go_ret;exact⟨rfl,F10.out⟩
      ·have hs9:Fu.sizes Q≤900:=by have:=may_small hm;omega
       have HS9:=Zh hs9;clear hs9 hm;have xq:w9.cell? ⟨qb,0,none⟩=some (.slice A6 Q.length c6):=(Zc Q9.out).1 0 _ rfl;go_wp2_with fail;refine(lay2_any Q okq A6 c6 w9 RQ9.out HCQ.out HC6.out HS9.out hok9.out).mono ?_;rintro e w10 ⟨rfl,hf10⟩;have F10:=Zh (F9.out.trans hf10);have G10:=Zh (hf10.cell' G9.out (non _));have E10:=Zh (E9.out.fr hf10 (non _));have Q10:=Zh (Zb Q9.out hf10 (non _));have RQ10:=Zh (RQ9.out.fr hf10 (fun _ _=>non _) fun _ h=>h);have hok10:=Zh (show∀k,okq k→k<w10.heap.size from fun k hk=>Nat.lt_of_lt_of_le (hok9.out k hk) hf10.size);clear hf10 F9 G9 E9 Q9 RQ9 hok9 xq;by_cases h3:(layM Q 2).2=0
       ·rw[show errV (layM Q 2)= .nilIface by rw[errV,if_pos h3]];have hl:=LAW.out h3 HD.out.1;rw[HD.out.2] at hl;have HLW:=Zh hl;clear hl h3 LAW;have xq:w10.cell? ⟨qb,0,none⟩=some (.slice A6 Q.length c6):=(Zc Q10.out).1 0 _ rfl;obtain⟨hHi⟩:Nonempty (((h.toNat:Int)).tmod 4=(H:Int)):=⟨by rw[HH.out];exact rem_u8 h 4 (by decide) (by decide)⟩;obtain⟨bz,hbz⟩:∃b:Bool,b=decide (H=0):=⟨_,rfl⟩;have hzz:((H:Int)==0)=bz:=by rw[hbz,Bool.eq_iff_iff,beq_iff_eq,decide_eq_true_eq];omega
        have HBZ:=Zh hbz;clear hbz;go_upto_region 15 with fail
        go_cut [104] (fun v104 wx=>wx=w10∧v104= .bool (bz&& !m2))
        case first=>
         cases bz<;>cases m2;all_goals
          go_wp2_with fail
          go_meet
          exact⟨rfl,rfl⟩
        case rest=>
        obtain⟨rfl,rfl⟩:=hcut;obtain⟨w10,rfl⟩:∃x:World,x=wc:=⟨_,rfl⟩;have HZZ:=Zh hzz;clear hHi hzz;cases hb:(bz&& !m2)
        ·have hl:layM Q 3=(e6.at_,130):=HLW.out.1 (by
          rw[HBZ.out] at hb;by_cases h0:H=0
          ·rw[decide_eq_true h0,Bool.true_and] at hb;exact .inr (by simpa using hb)
          ·exact .inl h0)
         clear hb;have K1:=Zh (fun w' (hf:Fr Non w10 w')=>lay3_any Q okq A6 c6 w' (RQ10.out.fr hf (fun _ _=>non _) fun _ h=>h) HCQ.out HC6.out HS9.out fun q hq=>Nat.lt_of_lt_of_le (hok10.out q hq) hf.size);have K3:=Zh (fun w' (hf:Fr Non w10 w')=>told_any (layM Q 3) w' (hf.cell' G10.out (non _)));have K5:=Zh (fun w' (hf:Fr Non w10 w')=>alive_any w' (hf.cell' G10.out (non _)));obtain⟨at6,hat6⟩:∃x,x=e6.at_:=⟨_,rfl⟩;rw[hl,←hat6] at K3;rw[hl,←hat6] at K1;simp only at K3;obtain⟨v,hv⟩:∃v,errV (at6,130)=v:=⟨_,rfl⟩;rw[hv] at K1 K3;have x13:w10.cell? ⟨eb,13,none⟩=some (.int .i64 at6):=by rw[hat6];exact E10.out.c13
         clear hl hv hat6;go_upto_region 17 with fail
         go_region_with (first
          |(go_at_call 26;refine(K1.out _ (Zf w10).drew).mono ?_;rintro e w11 ⟨rfl,hf11⟩;have hg11:Fr Non w10 w11:=(Zf w10).drew.trans hf11;have y13:=hg11.cell' x13 (non _))
          |(go_at_call 15;refine(K3.out w11 hg11).mono ?_;rintro e w12 ⟨rfl,hf12⟩;have hg12:=hg11.trans hf12)
          |(go_at_call 25;refine(K5.out w12 hg12).mono ?_;rintro e w13 ⟨rfl,hf13⟩;have hg13:=hg12.trans hf13))
         all_goals
          go_wp2_with fail;go_ret;exact⟨rfl,F10.out.trans hg13⟩
        ·rw[Bool.and_eq_true] at hb;have hl:layM Q 3=(0,0):=HLW.out.2 (by have:=hb.1;rw[HBZ.out] at this;simpa using this) (by simpa using hb.2);clear hb;go_wp2_with fail;refine(lay3_any Q okq A6 c6 w10 RQ10.out HCQ.out HC6.out HS9.out hok10.out).mono ?_;rintro e w11 ⟨rfl,hf11⟩;rw[show errV (layM Q 3)= .nilIface by rw[hl];rfl];have F11:=Zh (F10.out.trans hf11);have G11:=Zh (hf11.cell' G10.out (non _));clear hf11;go_wp2_with fail;refine(alive_any w11 G11.out).mono ?_;rintro e w12 ⟨rfl,hf12⟩;have F12:=Zh (F11.out.trans hf12);clear hf12;go_wp2_with fail;go_ret;exact⟨rfl,F12.out⟩
       ·rw[show errV (layM Q 2)=faultV (layM Q 2).1 (layM Q 2).2 by rw[errV,if_neg h3]];clear h3 LAW;generalize (layM Q 2).1=e1 at*;generalize (layM Q 2).2=e2 at*;have hne:∀w:World,(binOp .neq 30 (faultV e1 e2) .nilIface).run Tryz.prog w= .ok (.bool true) w:=fun w=>by kernel_rfl
        have heg:∀w:World,(eqGuard .neq 30 (.tmp 94) (.const .nilIface) (faultV e1 e2) .nilIface).run Tryz.prog w= .ok () w:=fun w=>by kernel_rfl
        go_wp2_with fail;refine(alive_any w10 G10.out).mono ?_;rintro e w11 ⟨rfl,hf11⟩;have F11:=Zh (F10.out.trans hf11);clear hf11;go_wp2_with fail;go_ret;exact⟨rfl,F11.out⟩
  ·rw[show errV (layM P 3)=faultV (layM P 3).1 (layM P 3).2 by rw[errV,if_neg h0]];clear h0;generalize (layM P 3).1=e1 at*;generalize (layM P 3).2=e2 at*;have hne:∀w:World,(binOp .neq 30 (faultV e1 e2) .nilIface).run Tryz.prog w= .ok (.bool true) w:=fun w=>by kernel_rfl
   have heg:∀w:World,(eqGuard .neq 30 (.tmp 20) (.const .nilIface) (faultV e1 e2) .nilIface).run Tryz.prog w= .ok () w:=fun w=>by kernel_rfl
   go_wp2_with fail;refine(alive_any w4 G4.out).mono ?_;rintro e w5 ⟨rfl,hf5⟩;have F5:=Zh (F4.out.trans hf5);clear hf5;go_wp2_with fail;go_ret;exact⟨rfl,F5.out⟩
section
open Go.ChangeShapes Go.WideShapes
theorem law_lifted (os:Os) (started:os.Started) (H:Type) (enc:TypeId×Value→H):
  ReturnsInHanded {} Tryz.checked os 8 .any (fun w args=>(Rows.borrowWithinSpec.pre enc Tryz.prog Tryz.f8 [] false w args∧laidMetH Tryz.prog [("errors.errorType",Rows.laid_errors_errorType)] w)∧sizedMet enc Tryz.prog Tryz.f8 (OpenSpec.ofChange Rows.borrowWithinSpec) false w args)
   (Rows.borrowWithinSpec.post enc Tryz.prog Tryz.f8 false true false false):=by
 refine returnsInHanded_of_change_and (C:=Tryz.checked) (X:=fun w _=>laidMetH Tryz.prog [("errors.errorType",Rows.laid_errors_errorType)] w) (fun _ _ _ hh h=>h.of_heap hh) own_knob started (by kernel_rfl) Tryz.func8
  (ChangeSpec.witness_at (enc:=enc) (C:=Tryz.checked) (os:=os) (X:=fun w _=>laidMetH Tryz.prog [("errors.errorType",Rows.laid_errors_errorType)] w) false (laidWorld os) #[.agg #[.slice none 0 0],.int .u8 0,.int .u8 0] 8 rfl (by kernel_rfl) (by kernel_rfl) (by kernel_rfl) (by kernel_rfl) (by kernel_rfl) (laidWorld_met os _)) ?_
 intro W base args ds gs before hval0 hW _ hsz hL _;have hval:∀(j:Nat) t v,Tryz.f8.params[j]? =some t→args[j]? =some v→Value.okWide Tryz.prog W .any base t v:=hval0;have hW':=hW;obtain⟨p,q,hA0,hV0,rfl,hfz,hnd⟩:=hW;have hA:DataW.TrodAll enc Tryz.prog W 0 (fun _=>true) true Tryz.f8.params.toList args.toList ds p:=hA0;have hV:DataW.TrodVars enc Tryz.prog W (fun _=>true) [] gs q:=hV0;rw[Tryz.params8] at hA hval;obtain⟨v0,v1,v2,d0,d1,d2,p0,p1,p2,rfl,rfl,rfl,h0,h1,h2⟩:=trodAll_three hA;obtain⟨rfl,rfl⟩:gs=[]∧q=[]:=by
  cases gs with
  |nil=>exact⟨rfl,hV⟩
  |cons g r=>exact absurd hV (by intro h;cases h)
 have hval1:=hval 0 24 v0 rfl rfl;have hvb1:=hval 1 5 v1 rfl rfl;obtain⟨n1,rfl,rfl,rfl,hn1⟩:=open_int Tryz.underlying5 hvb1 h1;obtain⟨k,rfl⟩:∃k:UInt8,n1=(k.toNat:Int):=by
  have hw:0≤n1∧n1≤255:=by have h:=hn1;simp only[Lit.wf,Bool.and_eq_true,decide_eq_true_eq] at h;exact⟨by have e:IntKind.u8.min=0:=rfl;omega,by have e:IntKind.u8.max=255:=rfl;omega⟩
  refine⟨UInt8.ofNat n1.toNat,?_⟩;have e:(UInt8.ofNat n1.toNat).toNat=n1.toNat%256:=UInt8.toNat_ofNat' ..;rw[e];omega
 have hvb2:=hval 2 5 v2 rfl rfl;obtain⟨n2,rfl,rfl,rfl,hn2⟩:=open_int Tryz.underlying5 hvb2 h2;obtain⟨h,rfl⟩:∃h:UInt8,n2=(h.toNat:Int):=by
  have hw:0≤n2∧n2≤255:=by have h:=hn2;simp only[Lit.wf,Bool.and_eq_true,decide_eq_true_eq] at h;exact⟨by have e:IntKind.u8.min=0:=rfl;omega,by have e:IntKind.u8.max=255:=rfl;omega⟩
  refine⟨UInt8.ofNat n2.toNat,?_⟩;have e:(UInt8.ofNat n2.toNat).toNat=n2.toNat%256:=UInt8.toNat_ofNat' ..;rw[e];omega
 obtain⟨cs,rfl⟩:∃cs,v0= .agg cs:=by
  unfold Value.okWide at hval1;rw[Tryz.underlying24] at hval1;obtain⟨cs,h,_⟩:=hval1;exact⟨cs,h⟩
 have h0k:=h0;obtain⟨fuel,hf⟩:=h0;have hlight:Light (d0.weights Tryz.prog 24):=by
  have hsz':(DataW.weightsEach Tryz.prog (Tryz.f8.params.toList++Rows.borrowWithinSpec.plain.varTypes Tryz.prog) ([d0,.lit (.int .u8 k.toNat),.lit (.int .u8 h.toNat)]++[])).all (· ≤reachBytes)=true:=hsz;rw[Tryz.params8] at hsz';have:Light (DataW.weightsEach Tryz.prog (#[24,5,5].toList++Rows.borrowWithinSpec.plain.varTypes Tryz.prog) ([d0,.lit (.int .u8 k.toNat),.lit (.int .u8 h.toNat)]++[])):=hsz';exact Light.left this
 obtain⟨P,A,c,hcs,hc1,hc2,hrd⟩:=op_prog fuel (.agg cs) _ _ hf hlight;have hcs':cs=#[.slice A P.length c]:=by
  have:cs.toList=[.slice A P.length c]:=hcs;rw[←Array.toList_inj];exact this
 subst hcs';refine(within_any P k h (InW W) A c W hrd hc2 hc1 (fun q hq=>hq) (handle_of_laid hL)).mono fun e W' ⟨he,hw⟩=>?_;subst he;have e1:Rows.borrowWithinSpec.fn H ([d0,.lit (.int .u8 k.toNat),.lit (.int .u8 h.toNat)]++[])={results:=[.lit (.bool true)],args:=[d0,.lit (.int .u8 k.toNat),.lit (.int .u8 h.toNat)]}:=by simp[Rows.borrowWithinSpec]
 have hlt:∀x∈p0,x.block<W.heap.size:=fun x hx=>hW'.lt x (by simpa using hx);refine⟨_,rfl,post_of_fr hw hW' ?_ ?_ ?_ ?_⟩
 ·intro b sp hd;rw[e1];exact trodAll_mk1 (shut_bool Tryz.underlying4 true)
 ·intro sp hsp;rw[e1,List.append_nil,Tryz.params8];have h3:=trodAll_mk3 (WideElems.Trod_stays laidOut readProg rowProg h0k (fun x hx=>hw.below.same (hlt x hx)) (fun x hx=>hsp x (by simpa using hx))) (shut_int Tryz.underlying5 hn1) (shut_int Tryz.underlying5 hn2);simp only[List.append_nil] at h3 ⊢;exact h3
 ·intro sp;rw[e1];rfl
 ·exact ok_one (by kernel_rfl) rfl (okWide_bool_mk Tryz.underlying4 true)
end
theorem borrowWithin_row_holds:Rows.BorrowWithinSaid:=
 OpenClaim.holds_of_wide 8 Tryz.f8 rfl rfl rfl rfl rfl rfl rfl ⟨rfl,rfl,rfl,rfl,rfl⟩ rfl rfl rfl rfl rfl (by kernel_rfl) Tryz.func8 (by kernel_rfl)
  (of_decide_eq_true (by kernel_rfl)) (by unfold Func.isWrapper;rw[if_neg (of_decide_eq_false (by kernel_rfl))];exact⟨rfl,rfl⟩)
  (fun os started H enc _=>law_lifted os started H enc)
theorem borrowWithin_card_holds:Rows.BorrowWithinCardSaid:=
 Claim7.holds_tied_plain_at .later [] [.handle] true (true,"0ae2bf723f1d24751efb88161dc2fe8c8504fb71dda75bd1ab4d1dcbc08523ed") true
  borrowWithin_row_holds (fun _ h=>by cases h) (by kernel_rfl) (fun _ h=>by cases h) borrowWithin_row_tie rfl ⟨rfl,rfl⟩ (by kernel_rfl) rfl
  (fun f fn hf hfn=>by
    obtain rfl:f=8:=Option.some.inj ((show Tryz.prog.funcNamed "sacristy/sacristylaw13.BorrowWithin"=some 8 by kernel_rfl).symm.trans hf) |>.symm;obtain rfl:fn=Tryz.f8:=(Option.some.inj (Tryz.func8.symm.trans hfn)).symm;exact⟨by kernel_rfl,fun j t ht=>by
     rw[Tryz.params8] at ht;have h3:t=24∨t=5:=by
      rcases j with _|_|_|j
      ·exact .inl (by simpa using ht.symm)
      ·exact .inr (by simpa using ht.symm)
      ·exact .inr (by simpa using ht.symm)
      ·simp at ht
     rcases h3 with rfl|rfl
     ·exact(show Tryz.prog.wantsStandIn 24=false by kernel_rfl)
     ·exact(show Tryz.prog.wantsStandIn 5=false by kernel_rfl)⟩)
  (by kernel_rfl)
#print axioms borrowWithin_card_holds
end Go.Proofs.YtpkpgmnbheenbaaGreatDoor
