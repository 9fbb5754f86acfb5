/- MovesNone's card: for every program that comes in the call returns true, and the program reads as it did (movesNone_card_holds). Conditions: those of the card; errors.errorType, which the row lists, is tied to the program's text. -/
import Derived.Test.YtgiomfnpkkdknaaGreatDoorMg01
import Derived.Test.YtgiomfnpkkdknaaGreatDoorMg02
import Derived.Test.YtgiomfnpkkdknaaGreatDoorMg05
import Derived.Test.YtgiomfnpkkdknaaGreatDoorMg12
import Derived.Test.YtgiomfnpkkdknaaGreatDoorMg16
import Derived.Test.YtgiomfnpkkdknaaGreatDoorMg19
import Derived.Test.YtgiomfnpkkdknaaGreatDoorTie
import Derived.Test.YtgiomfnpkkdknaaGreatDoorCards
import Derived.SevenTiedAt
namespace Go.Proofs.YtgiomfnpkkdknaaGreatDoor
open Go.RowKit
set_option linter.unusedVariables false
set_option linter.unusedSimpArgs false
set_option maxHeartbeats 8000000
set_option maxRecDepth 100000
theorem cls_true (ru:Int):∀l:List St,(∀j (h:j<l.length),St.cl ru l[j]=true)→St.cls ru l=true
 |[],_=>rfl
 |e::l,h=>by
  simp only[St.cls,Bool.and_eq_true];exact⟨h 0 (by simp),cls_true ru l fun j hj=>h (j+1) (by simpa using hj)⟩
theorem cls_false (ru:Int):∀(l:List St) (j:Nat) (h:j<l.length),St.cl ru l[j]=false→St.cls ru l=false
 |e::l,0,_,h=>by simp[St.cls,show St.cl ru e=false from h]
 |e::l,j+1,h1,h=>by simp[St.cls,cls_false ru l j (by simpa using h1) (by simpa using h)]
theorem cl_eq4 (s:St):s.cl 4=(!(s.kind.toNat==9)&&(St.cls 4 s.body&&St.cls 4 s.els)):=by cases s;rfl
theorem cl_eq3 (s:St):s.cl 3=((!(s.kind.toNat==8)&& !(s.kind.toNat==11&&decide (1<s.args.length)))&&(St.cls 3 s.body&&St.cls 3 s.els)):=by cases s;rfl
theorem moved_any (N:Nat):∀(l:List St) (ok:Nat→Prop) (A:Option Addr) (c:Nat) (w:World),St.sizes l≤N→RdRows ok w 9 A 0 (St.ds l)→l.length*144≤reach→
  Calls Tryz.prog 25 #[.slice A l.length c] w fun e w'=>e= .returned (.bool (!St.cls 4 l))∧Fr Non w w':=by
 induction N with
 |zero=>
  intro l ok A c w hN hr hc;obtain rfl:l=[]:=by cases l with|nil=>rfl|cons s l=>cases s;simp[St.sizes,St.size] at hN
  go_enter Tryz.func25,Tryz.ntmps25;go_wp2_with fail;refine wp_loop_rounds 1 ?_;rw[rounds_succ];go_wp2_with fail;go_ret;exact⟨rfl,Zf _⟩
 |succ N ih=>
 intro l ok A c w hN hr hc;have hlen:l.length≤140737488355328:=by unfold reach at hc;omega
 have IH:=Zh ih;clear ih;have HR:=Zh hr;clear hr;have HC:=Zh hc;clear hc;have HNN:=Zh hN;clear hN;go_enter Tryz.func25,Tryz.ntmps25;go_wp2_with fail
 go_loopw [3] (fun i wr=>∃j:Nat,i= .int .i64 j∧j≤l.length∧Fr Non w wr∧∀q,q<j→∀hq:q<l.length,St.cl 4 l[q]=true) (fun i _=>l.length-(intOf i).toNat)
 case atStart=>exact⟨0,rfl,by omega,Zf _,fun j hj=>by omega⟩
 case round=>
  obtain⟨j,rfl,hj,hfr,hno⟩:=hrel;have HN:=Zh hno;clear hno;by_cases hlt:j<l.length
  ·obtain⟨b,o1,A1,c1,A2,c2,A3,c3,A4,c4,rfl,hb,e0,e1,e2,e3,e4,e5,e6,e7,e8,⟨p1,q1,r1⟩,⟨p2,q2,r2⟩,⟨p3,q3,r3⟩,⟨p4,q4,r4⟩⟩:=at_st (HR.out.fr hfr (fun _ _=>non _) (fun _ h=>h)) j hlt;have R3:=Zh r3;clear r3;have R4:=Zh r4;clear r4;have HQ:=Zh (ssize_le l j hlt);have HF:=Zh hfr;clear hfr r1 r2;by_cases h9:l[j].kind.toNat=9
   ·have hk:((l[j].kind.toNat:Int)==9)=true:=by rw[h9];rfl
    go_wp2_with fail;go_ret;exact⟨ret_bool (by rw[cls_false 4 _ j hlt (by rw[cl_eq4,h9];rfl)];rfl),HF.out⟩
   ·have hk:((l[j].kind.toNat:Int)==9)=false:=by rw[beq_eq_false_iff_ne];omega
    have hk9:(l[j].kind.toNat==9)=false:=by rw[beq_eq_false_iff_ne];exact h9
    have HK9:=Zh hk9;clear hk9 h9;go_wp2_with fail;refine(IH.out l[j].body ok A3 c3 wr (by have:=HNN.out;have:=HQ.out;rw[St.size_eq] at this;omega) R3.out q3).mono ?_;rintro e w2 ⟨rfl,hf2⟩;have HF2:=Zh (HF.out.trans hf2);have y0:=hf2.cell' e0 (non _);have y7:=hf2.cell' e7 (non _);have y8:=hf2.cell' e8 (non _);have R4':=Zh (R4.out.fr hf2 (fun _ _=>non _) fun _ h=>h);clear hf2 e0 e1 e2 e3 e4 e5 e6 e7 e8;cases hb:St.cls 4 l[j].body
    ·have HB:=Zh hb;clear hb;go_wp2_with fail;go_ret;exact⟨ret_bool (by rw[cls_false 4 _ j hlt (by rw[cl_eq4,HB.out];simp)];rfl),HF2.out⟩
    ·have HB:=Zh hb;clear hb;go_wp2_with fail;refine(IH.out l[j].els ok A4 c4 w2 (by have:=HNN.out;have:=HQ.out;rw[St.size_eq] at this;omega) R4'.out q4).mono ?_;rintro e w3 ⟨rfl,hf3⟩;have HF3:=Zh (HF2.out.trans hf3);clear hf3 y0 y7 y8;cases he:St.cls 4 l[j].els
     ·have HE:=Zh he;clear he;go_wp2_with fail;go_ret;exact⟨ret_bool (by rw[cls_false 4 _ j hlt (by rw[cl_eq4,HE.out];simp)];rfl),HF3.out⟩
     ·have HE:=Zh he;clear he;go_wp2_with fail;go_roundw
      case rel=>exact⟨j+1,by go_num,by omega,HF3.out,till HN.out fun _=>by rw[cl_eq4,HB.out,HE.out,HK9.out];rfl⟩
      case measure=>simp[intOf];omega
  ·go_wp2_with fail;go_ret;obtain rfl:j=l.length:=by omega
   exact⟨ret_bool (by rw[cls_true 4 _ fun q hq=>HN.out q (by omega) hq];rfl),hfr⟩
theorem views_any (N:Nat):∀(l:List St) (ok:Nat→Prop) (A:Option Addr) (c:Nat) (w:World),St.sizes l≤N→RdRows ok w 9 A 0 (St.ds l)→l.length*144≤reach→
  Calls Tryz.prog 22 #[.slice A l.length c] w fun e w'=>e= .returned (.bool (!St.cls 3 l))∧Fr Non w w':=by
 induction N with
 |zero=>
  intro l ok A c w hN hr hc;obtain rfl:l=[]:=by cases l with|nil=>rfl|cons s l=>cases s;simp[St.sizes,St.size] at hN
  go_enter Tryz.func22,Tryz.ntmps22;go_wp2_with fail;refine wp_loop_rounds 1 ?_;rw[rounds_succ];go_wp2_with fail;go_ret;exact⟨rfl,Zf _⟩
 |succ N ih=>
 intro l ok A c w hN hr hc;have hlen:l.length≤140737488355328:=by unfold reach at hc;omega
 have IH:=Zh ih;clear ih;have HR:=Zh hr;clear hr;have HC:=Zh hc;clear hc;have HNN:=Zh hN;clear hN;go_enter Tryz.func22,Tryz.ntmps22;go_wp2_with fail
 go_loopw [3] (fun i wr=>∃j:Nat,i= .int .i64 j∧j≤l.length∧Fr Non w wr∧∀q,q<j→∀hq:q<l.length,St.cl 3 l[q]=true) (fun i _=>l.length-(intOf i).toNat)
 case atStart=>exact⟨0,rfl,by omega,Zf _,fun j hj=>by omega⟩
 case round=>
  obtain⟨j,rfl,hj,hfr,hno⟩:=hrel;have HN:=Zh hno;clear hno;by_cases hlt:j<l.length
  ·obtain⟨b,o1,A1,c1,A2,c2,A3,c3,A4,c4,rfl,hb,e0,e1,e2,e3,e4,e5,e6,e7,e8,⟨p1,q1,r1⟩,⟨p2,q2,r2⟩,⟨p3,q3,r3⟩,⟨p4,q4,r4⟩⟩:=at_st (HR.out.fr hfr (fun _ _=>non _) (fun _ h=>h)) j hlt;have R3:=Zh r3;clear r3;have R4:=Zh r4;clear r4;have HQ:=Zh (ssize_le l j hlt);have HF:=Zh hfr;clear hfr r1 r2;have hla:l[j].args.length≤140737488355328:=by unfold reach at q2;omega
   by_cases h8:l[j].kind.toNat=8
   ·have hk:((l[j].kind.toNat:Int)==8)=true:=by rw[h8];rfl
    go_wp2_with fail;go_ret;exact⟨ret_bool (by rw[cls_false 3 _ j hlt (by rw[cl_eq3,h8];rfl)];rfl),HF.out⟩
   ·have hk:((l[j].kind.toNat:Int)==8)=false:=by rw[beq_eq_false_iff_ne];omega
    have hk8:(l[j].kind.toNat==8)=false:=by rw[beq_eq_false_iff_ne];exact h8
    have HK8:=Zh hk8;clear hk8 h8;by_cases h11:l[j].kind.toNat=11∧1<l[j].args.length
    ·have hk2:((l[j].kind.toNat:Int)==11)=true:=by rw[h11.1];rfl
     have h1a:=h11.2;have HK:=Zh h11;clear h11;go_wp2_with fail;go_ret;exact⟨ret_bool (by rw[cls_false 3 _ j hlt (by rw[cl_eq3,HK.out.1,show decide (1<l[j].args.length)=true by simpa using HK.out.2];simp)];rfl),HF.out⟩
    ·have HK11:=Zh (show(!(l[j].kind.toNat==8)&& !(l[j].kind.toNat==11&&decide (1<l[j].args.length)))=true by
      rw[HK8.out];cases ha:(l[j].kind.toNat==11&&decide (1<l[j].args.length)) with
      |false=>rfl
      |true=>simp at ha;exact absurd ha h11)
     have hbod:Calls Tryz.prog 22 #[.slice A3 l[j].body.length c3] wr fun e w'=>e= .returned (.bool (!St.cls 3 l[j].body))∧Fr Non wr w':=IH.out l[j].body ok A3 c3 wr (by have:=HNN.out;have:=HQ.out;rw[St.size_eq] at this;omega) R3.out q3;have HBOD:=Zh hbod;clear hbod;have HELS:=Zh (fun w2 (hf2:Fr Non wr w2)=>IH.out l[j].els ok A4 c4 w2 (by have:=HNN.out;have:=HQ.out;rw[St.size_eq] at this;omega) (R4.out.fr hf2 (fun _ _=>non _) fun _ h=>h) q4);have fin:∀w3,Fr Non w w3→St.cls 3 l[j].body=true→St.cls 3 l[j].els=true→∀q,q<j+1→∀hq:q<l.length,St.cl 3 l[q]=true:=fun w3 _ hb he=>till HN.out fun _=>by rw[cl_eq3,hb,he,HK11.out];rfl
     have HFIN:=Zh fin;clear fin;by_cases hk2:l[j].kind.toNat=11
     ·have hka:¬1<l[j].args.length:=fun h=>h11 ⟨hk2,h⟩;have hk3:((l[j].kind.toNat:Int)==11)=true:=by rw[hk2];rfl
      clear h11 hk2;go_wp2_with fail;refine HBOD.out.mono ?_;rintro e w2 ⟨rfl,hf2⟩;have HF2:=Zh (HF.out.trans hf2);have HG2:=Zh hf2;have y0:=hf2.cell' e0 (non _);have y7:=hf2.cell' e7 (non _);have y8:=hf2.cell' e8 (non _);clear hf2 e0 e1 e2 e3 e4 e5 e6 e7 e8;cases hb:St.cls 3 l[j].body
      ·have HB:=Zh hb;clear hb;go_wp2_with fail;go_ret;exact⟨ret_bool (by rw[cls_false 3 _ j hlt (by rw[cl_eq3,HB.out];simp)];rfl),HF2.out⟩
      ·have HB:=Zh hb;clear hb;go_wp2_with fail;refine(HELS.out w2 HG2.out).mono ?_;rintro e w3 ⟨rfl,hf3⟩;have HF3:=Zh (HF2.out.trans hf3);clear hf3 y0 y7 y8;cases he:St.cls 3 l[j].els
       ·have HE:=Zh he;clear he;go_wp2_with fail;go_ret;exact⟨ret_bool (by rw[cls_false 3 _ j hlt (by rw[cl_eq3,HE.out];simp)];rfl),HF3.out⟩
       ·have HE:=Zh he;clear he;go_wp2_with fail;go_roundw
        case rel=>exact⟨j+1,by go_num,by omega,HF3.out,HFIN.out w3 HF3.out HB.out HE.out⟩
        case measure=>simp[intOf];omega
     ·have hk3:((l[j].kind.toNat:Int)==11)=false:=by rw[beq_eq_false_iff_ne];omega
      clear h11 hk2;go_wp2_with fail;refine HBOD.out.mono ?_;rintro e w2 ⟨rfl,hf2⟩;have HF2:=Zh (HF.out.trans hf2);have HG2:=Zh hf2;have y0:=hf2.cell' e0 (non _);have y7:=hf2.cell' e7 (non _);have y8:=hf2.cell' e8 (non _);clear hf2 e0 e1 e2 e3 e4 e5 e6 e7 e8;cases hb:St.cls 3 l[j].body
      ·have HB:=Zh hb;clear hb;go_wp2_with fail;go_ret;exact⟨ret_bool (by rw[cls_false 3 _ j hlt (by rw[cl_eq3,HB.out];simp)];rfl),HF2.out⟩
      ·have HB:=Zh hb;clear hb;go_wp2_with fail;refine(HELS.out w2 HG2.out).mono ?_;rintro e w3 ⟨rfl,hf3⟩;have HF3:=Zh (HF2.out.trans hf3);clear hf3 y0 y7 y8;cases he:St.cls 3 l[j].els
       ·have HE:=Zh he;clear he;go_wp2_with fail;go_ret;exact⟨ret_bool (by rw[cls_false 3 _ j hlt (by rw[cl_eq3,HE.out];simp)];rfl),HF3.out⟩
       ·have HE:=Zh he;clear he;go_wp2_with fail;go_roundw
        case rel=>exact⟨j+1,by go_num,by omega,HF3.out,HFIN.out w3 HF3.out HB.out HE.out⟩
        case measure=>simp[intOf];omega
  ·go_wp2_with fail;go_ret;obtain rfl:j=l.length:=by omega
   exact⟨ret_bool (by rw[cls_true 3 _ fun q hq=>HN.out q (by omega) hq];rfl),hfr⟩
def alT_a:ByteArray:=⟨#[102,110,32,102,40,41,32,123,32,98,117,102,32,98,91,49,93,59,32,109,111,118,101,32,99,32,61,32,98,59,32,98,91,48,93,32,61,32,49,59,32,125,59]⟩
def alF_a:List Fu:=[⟨⟨#[102]⟩,[],[.mk 3 ⟨#[98]⟩ ⟨#[]⟩ false false [.mk 1 1 ⟨#[]⟩ 0 []] [] [] [],.mk 9 ⟨#[99]⟩ ⟨#[98]⟩ false false [] [] [] [],.mk 4 ⟨#[98]⟩ ⟨#[]⟩ false false [.mk 1 0 ⟨#[]⟩ 0 [],.mk 1 1 ⟨#[]⟩ 0 []] [] [] []],false,[]⟩]
def alT_b:ByteArray:=⟨#[102,110,32,102,40,110,117,109,32,110,41,32,123,32,98,117,102,32,98,91,49,93,59,32,105,102,32,110,32,123,32,109,111,118,101,32,99,32,61,32,98,59,32,125,32,108,101,116,32,120,32,61,32,35,98,59,32,125,59]⟩
def alF_b:List Fu:=[⟨⟨#[102]⟩,[⟨⟨#[110]⟩,false,false,false⟩],[.mk 3 ⟨#[98]⟩ ⟨#[]⟩ false false [.mk 1 1 ⟨#[]⟩ 0 []] [] [] [],.mk 5 ⟨#[]⟩ ⟨#[]⟩ false false [.mk 2 0 ⟨#[110]⟩ 0 []] [] [.mk 9 ⟨#[99]⟩ ⟨#[98]⟩ false false [] [] [] []] [],.mk 1 ⟨#[120]⟩ ⟨#[]⟩ false false [.mk 4 0 ⟨#[98]⟩ 0 []] [] [] []],false,[]⟩]
def alT_c:ByteArray:=⟨#[102,110,32,102,40,41,32,123,32,98,117,102,32,98,91,49,93,59,32,102,111,114,32,105,32,60,32,50,32,123,32,109,111,118,101,32,99,32,61,32,98,59,32,125,32,125,59]⟩
def alF_c:List Fu:=[⟨⟨#[102]⟩,[],[.mk 3 ⟨#[98]⟩ ⟨#[]⟩ false false [.mk 1 1 ⟨#[]⟩ 0 []] [] [] [],.mk 7 ⟨#[105]⟩ ⟨#[]⟩ false false [.mk 1 2 ⟨#[]⟩ 0 []] [] [.mk 9 ⟨#[99]⟩ ⟨#[98]⟩ false false [] [] [] []] []],false,[]⟩]
def alT_d:ByteArray:=⟨#[102,110,32,102,40,110,117,109,32,110,41,32,123,32,98,117,102,32,98,91,49,93,59,32,105,102,32,110,32,123,32,109,111,118,101,32,99,32,61,32,98,59,32,125,32,101,108,115,101,32,123,32,109,111,118,101,32,100,32,61,32,98,59,32,125,32,125,59]⟩
def alF_d:List Fu:=[⟨⟨#[102]⟩,[⟨⟨#[110]⟩,false,false,false⟩],[.mk 3 ⟨#[98]⟩ ⟨#[]⟩ false false [.mk 1 1 ⟨#[]⟩ 0 []] [] [] [],.mk 5 ⟨#[]⟩ ⟨#[]⟩ false false [.mk 2 0 ⟨#[110]⟩ 0 []] [] [.mk 9 ⟨#[99]⟩ ⟨#[98]⟩ false false [] [] [] []] [.mk 9 ⟨#[100]⟩ ⟨#[98]⟩ false false [] [] [] []]],false,[]⟩]
theorem alP_a:parseQ alT_a=some alF_a:=by kernel_rfl
theorem alC_a:errV (layM alF_a 4)=faultV 3 140:=by kernel_rfl
theorem alZ_a:Fu.sizes alF_a≤900:=by rw[show Fu.sizes alF_a=_ from rfl];decide
theorem alP_b:parseQ alT_b=some alF_b:=by kernel_rfl
theorem alC_b:errV (layM alF_b 4)=faultV 4 140:=by kernel_rfl
theorem alZ_b:Fu.sizes alF_b≤900:=by rw[show Fu.sizes alF_b=_ from rfl];decide
theorem alP_c:parseQ alT_c=some alF_c:=by kernel_rfl
theorem alC_c:errV (layM alF_c 4)=faultV 3 140:=by kernel_rfl
theorem alZ_c:Fu.sizes alF_c≤900:=by rw[show Fu.sizes alF_c=_ from rfl];decide
theorem alP_d:parseQ alT_d=some alF_d:=by kernel_rfl
theorem alC_d:errV (layM alF_d 4)= .nilIface:=by kernel_rfl
theorem alZ_d:Fu.sizes alF_d≤900:=by rw[show Fu.sizes alF_d=_ from rfl];decide
theorem toldT_any (s:ByteArray) (xs:List Fu) (r:Int×Int) (w:World) (hp:parseQ s=some xs) (hl:errV (layM xs 4)=errV r) (hz:Fu.sizes xs≤900) (h16:xs.length≤16) (hg:w.cell? ⟨0,0,none⟩=some (rty 30)):
  Calls Tryz.prog 39 #[.string s,.int .i64 r.1,.int .i64 r.2] w fun e w'=>e= .returned (.bool true)∧Fr Non w w':=by
 have HG:=Zh hg;clear hg;have HP:=Zh (qparsed_any s xs w hp);clear hp;have HL:=Zh hl;clear hl;go_enter Tryz.func39,Tryz.ntmps39;go_wp2_with fail;refine HP.out.mono ?_;rintro e w2 ⟨A,c,rfl,hc,hf2,hr2⟩;have F2:=Zh hf2;have S2:=Zh (lay4_any xs _ A c w2 hr2 (by unfold reach;omega) hc hz fun q hq=>hq.2);clear hf2 hr2 hc HP;go_wp2_with fail;refine S2.out.mono ?_;rintro e w3 ⟨rfl,hf3⟩;rw[HL.out];have F3:=Zh (F2.out.trans hf3);clear hf3 S2 F2;have T3:=Zh (told_any r w3 (F3.out.cell' HG.out (non _)));obtain⟨v,hv⟩:∃v,errV r=v:=⟨_,rfl⟩;rw[hv] at T3 ⊢;clear hv;go_wp2_with fail;refine T3.out.mono ?_;rintro e w4 ⟨rfl,hf4⟩;have F4:=Zh (F3.out.trans hf4);clear hf4 T3 F3;go_wp2_with fail;go_ret;exact⟨rfl,F4.out⟩
theorem alive_any (w:World) (hg:w.cell? ⟨0,0,none⟩=some (rty 30)):Calls Tryz.prog 23 #[] w fun e w'=>e= .returned (.bool true)∧Fr Non w w':=by
 have HG:=Zh hg;clear hg;have hq0:=Zh (fun w=>toldT_any alT_a alF_a (3,140) w alP_a (by rw[alC_a];rfl) alZ_a (by decide));have hq1:=Zh (fun w=>toldT_any alT_b alF_b (4,140) w alP_b (by rw[alC_b];rfl) alZ_b (by decide));have hq2:=Zh (fun w=>toldT_any alT_c alF_c (3,140) w alP_c (by rw[alC_c];rfl) alZ_c (by decide));have hq3:=Zh (fun w=>toldT_any alT_d alF_d (0,0) w alP_d (by rw[alC_d];rfl) alZ_d (by decide));simp only[alT_a,alT_b,alT_c,alT_d] at hq0 hq1 hq2 hq3;go_enter Tryz.func23,Tryz.ntmps23;go_wp2_with fail;refine(hq0.out _ HG.out).mono ?_;rintro e w1 ⟨rfl,hf⟩;have F1:=Zh hf;clear hf;go_wp2_with fail;refine(hq1.out _ (F1.out.cell' HG.out (non _))).mono ?_;rintro e w2 ⟨rfl,hf⟩;have F2:=Zh (F1.out.trans hf);clear hf;go_wp2_with fail;refine(hq2.out _ (F2.out.cell' HG.out (non _))).mono ?_;rintro e w3 ⟨rfl,hf⟩;have F3:=Zh (F2.out.trans hf);clear hf;go_wp2_with fail;refine(hq3.out _ (F3.out.cell' HG.out (non _))).mono ?_;rintro e w4 ⟨rfl,hf⟩;have F4:=Zh (F3.out.trans hf);clear hf;go_wp2_with fail;go_ret;exact⟨rfl,F4.out⟩
theorem lay_none (P:List Fu) (k:Nat) (h:evCheck ((k+1:Nat):Int) P=(0,0)):errV (layM P (k+1))=errV (layM P k):=by
 rw[layM];split
 ·rfl
 ·rename_i h0;rw[h];unfold errV;rw[if_pos rfl,if_pos (by simpa using h0)]
theorem none_any (P:List Fu) (ok:Nat→Prop) (A:Option Addr) (c:Nat) (w:World) (hr:RdRows ok w 5 A 0 (P.map Fu.d)) (hc:P.length*96≤reach) (hpc:P.length≤c) (hok:∀q,ok q→q<w.heap.size)
   (hg:w.cell? ⟨0,0,none⟩=some (rty 30)) (tb:Int) (ht:w.cell? ⟨1,2,none⟩=some (.int .u64 tb)):
  Calls Tryz.prog 9 #[.agg #[.slice A P.length c]] w fun e w'=>e= .returned (.bool true)∧Fr Non w w':=by
 obtain⟨W1,HW1⟩:∃W1,W1=w.alloc (.cells #[.slice A P.length c] 24):=⟨_,rfl⟩;have hf1:Fr Non w W1:=by rw[HW1];exact(Zf w).alloc _
 have B1:=Zh (show W1.heap[w.heap.size]? =some (.cells #[.slice A P.length c] 24 (0,0)) by rw[HW1];exact blk_new _ _ _);have R1:=Zh (hr.fr hf1 (fun _ _=>non _) fun _ h=>h);have G1:=Zh (hf1.cell' hg (non _));have T1:=Zh (hf1.cell' ht (non _));have F1:=Zh hf1;have hok1:=Zh (show∀q,ok q→q<W1.heap.size from fun q hq=>by have:=hok q hq;have:=hf1.size;omega);clear hf1 hr hg ht;have x1:=(Zc B1.out).1 0 _ rfl;have HC:=Zh hc;have HPC:=Zh hpc
 clear hc hpc hok;go_enter Tryz.func9,Tryz.ntmps9;go_upto_region 1 with fail;rw[←HW1];clear HW1;go_wp2_with fail;refine(large08_any P ok A c W1 R1.out HC.out hok1.out).mono ?_;rintro e w2 ⟨⟨b,rfl,hb⟩,hf2⟩;have F2:=Zh (F1.out.trans hf2);have G2:=Zh (hf2.cell' G1.out (non _));have T2:=Zh (hf2.cell' T1.out (non _));have R2:=Zh (R1.out.fr hf2 (fun _ _=>non _) fun _ h=>h);have B2:=Zh (Zb B1.out hf2 (non _));have hok2:=Zh (show∀q,ok q→q<w2.heap.size from fun q hq=>by have:=hok1.out q hq;have:=hf2.size;omega);clear hf2 F1 G1 T1 R1 B1 x1;cases b
 case true=>
  go_wp2_with fail;refine(alive_any w2 G2.out).mono ?_;rintro e w3 ⟨rfl,hf3⟩;have F3:=Zh (F2.out.trans hf3);clear hf3;go_wp2_with fail;go_ret;exact⟨rfl,F3.out⟩
 case false=>
  obtain⟨hl30,hs9,hli⟩:=hb rfl;have HS:=Zh hs9;clear hs9 hli hb;have x2:=(Zc B2.out).1 0 _ rfl;go_wp2_with fail
  go_loopw [3] (fun i wr=>∃j:Nat,i= .int .i64 j∧j≤P.length∧Fr Non w2 wr∧∀q,q<j→∀hq:q<P.length,St.cls 4 P[q].body=true) (fun i _=>P.length-(intOf i).toNat)
  case atStart=>exact⟨0,rfl,by omega,Zf _,fun j hj=>by omega⟩
  case round=>
   obtain⟨j,rfl,hj,hfr,hno⟩:=hrel;have HN:=Zh hno;clear hno;clear x2;have x3:=(Zc (Zb B2.out hfr (non _))).1 0 _ rfl;by_cases hlt:j<P.length
   ·obtain⟨b,o1,A1,c1,A2,c2,A3,c3,rfl,hb,e0,e1,e2,e3,e4,⟨p1,q1,r1⟩,⟨p2,q2,r2⟩,⟨p3,q3,r3⟩⟩:=at_fu (R2.out.fr hfr (fun _ _=>non _) (fun _ h=>h)) j hlt;have R3:=Zh r2;clear r1 r2 r3;have HF:=Zh hfr;clear hfr;go_wp2_with fail;refine(moved_any (St.sizes P[j].body) P[j].body ok A2 c2 wr (Nat.le_refl _) R3.out q2).mono ?_;rintro e w3 ⟨rfl,hf3⟩;have HF3:=Zh (HF.out.trans hf3);clear hf3;clear x3 e0 e1 e2 e3 e4;cases hm:St.cls 4 P[j].body
    ·go_wp2_with fail;refine(alive_any w3 (HF3.out.cell' G2.out (non _))).mono ?_;rintro e w4 ⟨rfl,hf4⟩;have F4:=Zh ((F2.out.trans HF3.out).trans hf4);clear hf4;go_wp2_with fail;go_ret;exact⟨rfl,F4.out⟩
    ·have HM:=Zh hm;clear hm;go_wp2_with fail;go_roundw
     case rel=>exact⟨j+1,by go_num,by omega,HF3.out,till HN.out fun _=>HM.out⟩
     case measure=>simp[intOf];omega
   ·obtain rfl:j=P.length:=by omega
    have hev:evCheck ((4-1+1:Nat):Int) P=(0,0):=ev_none (.inr (.inr rfl)) P (fun h=>absurd h (by decide)) fun f hf=>by
     obtain⟨q,hq,rfl⟩:=List.getElem_of_mem hf;exact HN.out q hq hq
    have hlay:=lay_none P (4-1) hev;have hlay:errV (layM P 4)=errV (layM P 3):=hlay;have HL:=Zh hlay;clear hlay hev;have F5:=Zh (F2.out.trans hfr);have G5:=Zh (hfr.cell' G2.out (non _));have T5:=Zh (hfr.cell' T2.out (non _));have R5:=Zh (R2.out.fr hfr (fun _ _=>non _) fun _ h=>h);have hok5:=Zh (show∀q,ok q→q<wr.heap.size from fun q hq=>by have:=hok2.out q hq;have:=hfr.size;omega);have y5:=ext_cell x3;clear hfr;have bd:=layM_bd P 3;have K5:=Zh (fun x=>lay3_any P ok A c (ext wr x) (R5.out.fr (ext_fr wr x) (fun _ _=>non _) fun _ h=>h) HC.out HPC.out HS.out (fun q hq=>by have:=hok5.out q hq;have:=(ext_fr wr x).size;omega));have N5:=Zh (fun x=>lay4_any P ok A c (ext wr x) (R5.out.fr (ext_fr wr x) (fun _ _=>non _) fun _ h=>h) HC.out HPC.out HS.out (fun q hq=>by have:=hok5.out q hq;have:=(ext_fr wr x).size;omega));have V5:=Zh (fun x=>alive_any (ext wr x) (ext_cell G5.out x));have S5:=Zh (fun x=>alike_any (layM P 3) bd.1 bd.2.1 bd.2.2.1 bd.2.2.2 tb (ext wr x) (ext_cell T5.out x));rw[HL.out] at N5;generalize errV (layM P 3)=EV at K5 N5 S5;clear bd HL;go_upto_region 8 with fail;refine wp_region_ext (by kernel_rfl) (by kernel_rfl) ?_
    repeat (go_big_quiet_step (fail))
    go_big_quiet_want;go_big_quiet_op;apply Exists.intro;refine⟨fun x=>?_,?_⟩
    ·exact calls_ext (K5.out x)
    go_big_quiet_on
    repeat (go_big_quiet_step (fail))
    go_big_quiet_want;go_big_quiet_op;apply Exists.intro;refine⟨fun x=>?_,?_⟩
    ·exact calls_ext (N5.out x)
    go_big_quiet_on
    repeat (go_big_quiet_step (fail))
    go_big_quiet_want;go_big_quiet_op;apply Exists.intro;refine⟨fun x=>?_,?_⟩
    ·exact calls_ext (S5.out x)
    go_big_quiet_on
    repeat (go_big_quiet_step (fail))
    go_big_quiet_want;go_big_quiet_op;apply Exists.intro;refine⟨fun x=>?_,?_⟩
    ·exact calls_ext (V5.out x)
    go_big_quiet_on
    repeat (go_big_quiet_step (fail))
    refine wpQuiet_nil ?_;intro w6 hf6;have F6:=Zh (F5.out.trans hf6);clear hf6;go_wp2_with fail;go_ret;exact⟨rfl,F6.out⟩
section
open Go.ChangeShapes Go.WideShapes
theorem none_lifted (os:Os) (started:os.Started) (H:Type) (enc:TypeId×Value→H):
  ReturnsInHanded {} Tryz.checked os 9 .any (fun w args=>(Rows.movesNoneSpec.pre enc Tryz.prog Tryz.f9 [] false w args∧laidMetH Tryz.prog [("errors.errorType",Rows.laid_errors_errorType)] w)∧sizedMet enc Tryz.prog Tryz.f9 (OpenSpec.ofChange Rows.movesNoneSpec) false w args)
   (Rows.movesNoneSpec.post enc Tryz.prog Tryz.f9 false true false false):=by
 refine lifted_shaped (C:=Tryz.checked) (X:=fun w _=>laidMetH Tryz.prog [("errors.errorType",Rows.laid_errors_errorType)] w) (fun _ _ _ hh h=>h.of_heap hh) own_knob started (by kernel_rfl) Tryz.func9
  (ChangeSpec.witness_at (enc:=enc) (C:=Tryz.checked) (os:=os) (X:=fun w _=>laidMetH Tryz.prog [("errors.errorType",Rows.laid_errors_errorType)] w) false (laidWorld os) #[.agg #[.slice none 0 0]] 8 rfl (by kernel_rfl) (by kernel_rfl) (by kernel_rfl) (by kernel_rfl) (by kernel_rfl) (laidWorld_met os _)) ?_
 intro W base args ds gs before hsh hval0 hW hsz hL;obtain⟨tb,htb⟩:=tab_of_shaped hsh;have hval:∀(j:Nat) t v,Tryz.f9.params[j]? =some t→args[j]? =some v→Value.okWide Tryz.prog W .any base t v:=hval0;have hW':=hW;obtain⟨p,q,hA0,hV0,rfl,hfz,hnd⟩:=hW;have hA:DataW.TrodAll enc Tryz.prog W 0 (fun _=>true) true Tryz.f9.params.toList args.toList ds p:=hA0;have hV:DataW.TrodVars enc Tryz.prog W (fun _=>true) [] gs q:=hV0;rw[Tryz.params9] at hA hval;obtain⟨v0,d0,rfl,rfl,h0⟩:=trodAll_one hA;obtain⟨rfl,rfl⟩:gs=[]∧q=[]:=by
  cases gs with
  |nil=>exact⟨rfl,hV⟩
  |cons g r=>exact absurd hV (by intro h;cases h)
 have hval1:=hval 0 24 v0 rfl rfl;obtain⟨cs,rfl⟩:∃cs,v0= .agg cs:=by
  unfold Value.okWide at hval1;rw[Tryz.underlying24] at hval1;obtain⟨cs,h,_⟩:=hval1;exact⟨cs,h⟩
 have h0k:=h0;obtain⟨fuel,hf⟩:=h0;have hlight:Light (d0.weights Tryz.prog 24):=by
  have hsz':(DataW.weightsEach Tryz.prog (Tryz.f9.params.toList++Rows.movesNoneSpec.plain.varTypes Tryz.prog) ([d0]++[])).all (· ≤reachBytes)=true:=hsz;rw[Tryz.params9] at hsz';have:Light (DataW.weightsEach Tryz.prog (#[24].toList++Rows.movesNoneSpec.plain.varTypes Tryz.prog) ([d0]++[])):=hsz';exact Light.left this
 obtain⟨P,A,c,hcs,hc1,hc2,hrd⟩:=op_prog fuel (.agg cs) _ _ hf hlight;have hcs':cs=#[.slice A P.length c]:=by
  have:cs.toList=[.slice A P.length c]:=hcs;rw[←Array.toList_inj];exact this
 subst hcs';refine(none_any P (InW W) A c W hrd hc2 hc1 (fun q hq=>hq) (handle_of_laid hL) tb htb).mono fun e W' ⟨he,hw⟩=>?_;subst he;have e1:Rows.movesNoneSpec.fn H ([d0]++[])={results:=[.lit (.bool true)],args:=[d0]}:=by simp[Rows.movesNoneSpec]
 have hlt:∀x∈p,x.block<W.heap.size:=fun x hx=>hW'.lt x (by simpa using hx);refine⟨_,rfl,post_of_fr hw hW' ?_ ?_ ?_ ?_⟩
 ·intro b sp hd;rw[e1];exact trodAll_mk1 (shut_bool Tryz.underlying4 true)
 ·intro sp hsp;rw[e1,List.append_nil,Tryz.params9];exact trodAll_mk1 (WideElems.Trod_stays laidOut readProg rowProg h0k (fun x hx=>hw.below.same (hlt x hx)) (fun x hx=>hsp x (by simpa using hx)))
 ·intro sp;rw[e1];rfl
 ·exact ok_one (by kernel_rfl) rfl (okWide_bool_mk Tryz.underlying4 true)
end
theorem movesNone_row_holds:Rows.MovesNoneSaid:=
 OpenClaim.holds_of_wide 9 Tryz.f9 rfl rfl rfl rfl rfl rfl rfl ⟨rfl,rfl,rfl,rfl,rfl⟩ rfl rfl rfl rfl rfl (by kernel_rfl) Tryz.func9 (by kernel_rfl)
  (of_decide_eq_true (by kernel_rfl)) (by unfold Func.isWrapper;rw[if_neg (of_decide_eq_false (by kernel_rfl))];exact⟨rfl,rfl⟩)
  (fun os started H enc _=>none_lifted os started H enc)
theorem movesNone_card_holds:Rows.MovesNoneCardSaid:=
 Claim7.holds_tied_plain_at .later [] [.handle] true (true,"7f6c163b6908de3d1b2709be3c4be9f478e893cac8f2eb548d1e6999b29bbbc5") true
  movesNone_row_holds (fun _ h=>by cases h) (by kernel_rfl) (fun _ h=>by cases h) movesNone_row_tie rfl ⟨rfl,rfl⟩ (by kernel_rfl) rfl
  (fun f fn hf hfn=>by
    obtain rfl:f=9:=Option.some.inj ((show Tryz.prog.funcNamed "sacristy/sacristylaw14.MovesNone"=some 9 by kernel_rfl).symm.trans hf) |>.symm;obtain rfl:fn=Tryz.f9:=(Option.some.inj (Tryz.func9.symm.trans hfn)).symm;exact⟨by kernel_rfl,fun j t ht=>by
     rw[Tryz.params9] at ht;have h3:t=24:=by
      rcases j with _|j
      ·simpa using ht.symm
      ·simp at ht
     subst h3;exact(show Tryz.prog.wantsStandIn 24=false by kernel_rfl)⟩)
  (by kernel_rfl)
#print axioms movesNone_card_holds
end Go.Proofs.YtgiomfnpkkdknaaGreatDoor
