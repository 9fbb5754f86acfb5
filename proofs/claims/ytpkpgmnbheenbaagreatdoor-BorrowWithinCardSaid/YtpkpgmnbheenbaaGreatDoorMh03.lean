/- Contracts and laws, Mh03 -/
import Derived.Test.YtpkpgmnbheenbaaGreatDoorMh01
import Derived.Test.YtpkpgmnbheenbaaGreatDoorMh02
import Derived.Deep.DeepCutAuto
import Derived.Recover
import Derived.Defers
namespace Go.Proofs.YtpkpgmnbheenbaaGreatDoor
open Go.RowKit
set_option linter.unusedVariables false
set_option linter.unusedSimpArgs false
set_option maxHeartbeats 8000000
set_option maxRecDepth 100000
def nIs (k:UInt8):Bool:=decide (1≤k.toNat∧k.toNat≤12)
def nEx (k:UInt8):Int:=if k.toNat=4∨k.toNat=8 then 2 else if k.toNat=11 then -1 else if k.toNat=1∨k.toNat=2∨k.toNat=3∨k.toNat=5∨k.toNat=6∨k.toNat=7∨k.toNat=10 then 1 else 0
def nName (k:UInt8):Bool:=decide (k.toNat=1∨k.toNat=2∨k.toNat=3∨k.toNat=4∨k.toNat=7∨k.toNat=8∨k.toNat=9∨k.toNat=10)
def nFrom (k:UInt8):Bool:=decide (k.toNat=8∨k.toNat=9∨k.toNat=11)
def nSec (k:UInt8):Bool:=decide (k.toNat=1∨k.toNat=3)
def nMut (k:UInt8):Bool:=decide (k.toNat=8)
def nBody (k:UInt8):Bool:=decide (5≤k.toNat∧k.toNat≤8)
def nElse (k:UInt8):Bool:=decide (k.toNat=5)
def needV (k:UInt8):Value:=.agg #[.int .i64 (nEx k),.bool (nName k),.bool (nFrom k),.bool (nSec k),.bool (nMut k),.bool (nBody k),.bool (nElse k)]
theorem needV_at (k:UInt8) (n:Nat) (h:k.toNat=n) (hn:n<256):needV k=needV (UInt8.ofNat n)∧nIs k=nIs (UInt8.ofNat n):=by
 obtain rfl:k=UInt8.ofNat n:=UInt8.toNat.inj (by rw[h];simp;omega);exact⟨rfl,rfl⟩
theorem needV_no (k:UInt8) (h:k.toNat=0∨12<k.toNat):needV k= .agg #[.int .i64 0,.bool false,.bool false,.bool false,.bool false,.bool false,.bool false]∧nIs k=false:=by
 unfold needV nEx nName nFrom nSec nMut nBody nElse nIs
 repeat rw[if_neg (by omega)]
 repeat rw[decide_eq_false (by omega)]
 exact⟨rfl,rfl⟩
theorem needs_any (k:UInt8) (w:World):Calls Tryz.prog 104 #[vu8 k] w fun e w'=>e= .returned (.tuple #[needV k,.bool (nIs k)])∧Fr Non w w':=by
 have hc:=k.toNat_lt;go_enter Tryz.func104,Tryz.ntmps104;go_wp2_with fail;all_goals simp only[beq_iff_eq,beq_eq_false_iff_ne,ne_eq] at*
 all_goals first
  |(have hk:k.toNat=1:=by omega
    obtain⟨h1,h2⟩:=needV_at k 1 hk (by omega);rw[h1,h2];refine bodyPost_ret (v:=.tuple #[needV (UInt8.ofNat 1),.bool (nIs (UInt8.ofNat 1))]) (by simp[results,Tryz.results104,go_sem,needV,nEx,nName,nFrom,nSec,nMut,nBody,nElse,nIs]) rfl ⟨rfl,?_⟩)
  |(have hk:k.toNat=2:=by omega
    obtain⟨h1,h2⟩:=needV_at k 2 hk (by omega);rw[h1,h2];refine bodyPost_ret (v:=.tuple #[needV (UInt8.ofNat 2),.bool (nIs (UInt8.ofNat 2))]) (by simp[results,Tryz.results104,go_sem,needV,nEx,nName,nFrom,nSec,nMut,nBody,nElse,nIs]) rfl ⟨rfl,?_⟩)
  |(have hk:k.toNat=3:=by omega
    obtain⟨h1,h2⟩:=needV_at k 3 hk (by omega);rw[h1,h2];refine bodyPost_ret (v:=.tuple #[needV (UInt8.ofNat 3),.bool (nIs (UInt8.ofNat 3))]) (by simp[results,Tryz.results104,go_sem,needV,nEx,nName,nFrom,nSec,nMut,nBody,nElse,nIs]) rfl ⟨rfl,?_⟩)
  |(have hk:k.toNat=4:=by omega
    obtain⟨h1,h2⟩:=needV_at k 4 hk (by omega);rw[h1,h2];refine bodyPost_ret (v:=.tuple #[needV (UInt8.ofNat 4),.bool (nIs (UInt8.ofNat 4))]) (by simp[results,Tryz.results104,go_sem,needV,nEx,nName,nFrom,nSec,nMut,nBody,nElse,nIs]) rfl ⟨rfl,?_⟩)
  |(have hk:k.toNat=5:=by omega
    obtain⟨h1,h2⟩:=needV_at k 5 hk (by omega);rw[h1,h2];refine bodyPost_ret (v:=.tuple #[needV (UInt8.ofNat 5),.bool (nIs (UInt8.ofNat 5))]) (by simp[results,Tryz.results104,go_sem,needV,nEx,nName,nFrom,nSec,nMut,nBody,nElse,nIs]) rfl ⟨rfl,?_⟩)
  |(have hk:k.toNat=6:=by omega
    obtain⟨h1,h2⟩:=needV_at k 6 hk (by omega);rw[h1,h2];refine bodyPost_ret (v:=.tuple #[needV (UInt8.ofNat 6),.bool (nIs (UInt8.ofNat 6))]) (by simp[results,Tryz.results104,go_sem,needV,nEx,nName,nFrom,nSec,nMut,nBody,nElse,nIs]) rfl ⟨rfl,?_⟩)
  |(have hk:k.toNat=7:=by omega
    obtain⟨h1,h2⟩:=needV_at k 7 hk (by omega);rw[h1,h2];refine bodyPost_ret (v:=.tuple #[needV (UInt8.ofNat 7),.bool (nIs (UInt8.ofNat 7))]) (by simp[results,Tryz.results104,go_sem,needV,nEx,nName,nFrom,nSec,nMut,nBody,nElse,nIs]) rfl ⟨rfl,?_⟩)
  |(have hk:k.toNat=8:=by omega
    obtain⟨h1,h2⟩:=needV_at k 8 hk (by omega);rw[h1,h2];refine bodyPost_ret (v:=.tuple #[needV (UInt8.ofNat 8),.bool (nIs (UInt8.ofNat 8))]) (by simp[results,Tryz.results104,go_sem,needV,nEx,nName,nFrom,nSec,nMut,nBody,nElse,nIs]) rfl ⟨rfl,?_⟩)
  |(have hk:k.toNat=9:=by omega
    obtain⟨h1,h2⟩:=needV_at k 9 hk (by omega);rw[h1,h2];refine bodyPost_ret (v:=.tuple #[needV (UInt8.ofNat 9),.bool (nIs (UInt8.ofNat 9))]) (by simp[results,Tryz.results104,go_sem,needV,nEx,nName,nFrom,nSec,nMut,nBody,nElse,nIs]) rfl ⟨rfl,?_⟩)
  |(have hk:k.toNat=10:=by omega
    obtain⟨h1,h2⟩:=needV_at k 10 hk (by omega);rw[h1,h2];refine bodyPost_ret (v:=.tuple #[needV (UInt8.ofNat 10),.bool (nIs (UInt8.ofNat 10))]) (by simp[results,Tryz.results104,go_sem,needV,nEx,nName,nFrom,nSec,nMut,nBody,nElse,nIs]) rfl ⟨rfl,?_⟩)
  |(have hk:k.toNat=11:=by omega
    obtain⟨h1,h2⟩:=needV_at k 11 hk (by omega);rw[h1,h2];refine bodyPost_ret (v:=.tuple #[needV (UInt8.ofNat 11),.bool (nIs (UInt8.ofNat 11))]) (by simp[results,Tryz.results104,go_sem,needV,nEx,nName,nFrom,nSec,nMut,nBody,nElse,nIs]) rfl ⟨rfl,?_⟩)
  |(have hk:k.toNat=12:=by omega
    obtain⟨h1,h2⟩:=needV_at k 12 hk (by omega);rw[h1,h2];refine bodyPost_ret (v:=.tuple #[needV (UInt8.ofNat 12),.bool (nIs (UInt8.ofNat 12))]) (by simp[results,Tryz.results104,go_sem,needV,nEx,nName,nFrom,nSec,nMut,nBody,nElse,nIs]) rfl ⟨rfl,?_⟩)
  |(obtain⟨h1,h2⟩:=needV_no k (by omega)
    rw[h1,h2];refine bodyPost_ret (v:=.tuple #[.agg #[.int .i64 0,.bool false,.bool false,.bool false,.bool false,.bool false,.bool false],.bool false]) (by simp[results,Tryz.results104,go_sem]) rfl ⟨rfl,?_⟩)
 all_goals first|exact(Zf w).alloc _|exact((Zf w).alloc _).setCell _ _ (.inr (Nat.le_refl _))
def namedX (s:ByteArray) (b:Bool):Bool:=if b then namedM s else emp s
theorem namedX_any (s:ByteArray) (b:Bool) (w:World):Calls Tryz.prog 105 #[.string s,.bool b] w fun e w'=>e= .returned (.bool (namedX s b))∧Fr Non w w':=by
 cases b with
 |true=>
  go_enter Tryz.func105,Tryz.ntmps105;go_wp2_with fail;refine(named_any _ _).mono ?_;rintro e w1 ⟨rfl,hf⟩;go_wp2_with fail;go_ret;exact⟨rfl,hf⟩
 |false=>
  go_enter Tryz.func105,Tryz.ntmps105;go_wp2_with fail;go_ret;exact⟨ret_bool (by first|rfl|(rw[toemp];rfl)),Zf _⟩
theorem names_any (l:List ByteArray) (ok:Nat→Prop) (A:Option Addr) (c:Nat) (w:World) (hr:RdRows ok w 1 A 0 (l.map strD)) (hc:l.length*16≤reach):
  Calls Tryz.prog 106 #[.slice A l.length c] w fun e w'=>e= .returned (.bool (l.all namedM))∧Fr Non w w':=by
 have hlen:l.length≤140737488355328:=by unfold reach at hc;omega
 have HR:=Zh hr;clear hr;go_enter Tryz.func106,Tryz.ntmps106;go_wp2_with fail
 go_loopw [3] (fun i wr=>∃j:Nat,i= .int .i64 j∧j≤l.length∧Fr Non w wr∧∀q,q<j→∀hq:q<l.length,namedM l[q]=true) (fun i _=>l.length-(intOf i).toNat)
 case atStart=>exact⟨0,rfl,by omega,Zf _,fun j hj=>by omega⟩
 case round=>
  obtain⟨j,rfl,hj,hfr,hno⟩:=hrel;have HN:=Zh hno;clear hno;by_cases hlt:j<l.length
  ·obtain⟨b,o1,rfl,hb,e0⟩:=at_str (HR.out.fr hfr (fun _ _=>non _) (fun _ h=>h)) j hlt;go_wp2_with fail;refine(named_any _ _).mono ?_;rintro e w2 ⟨rfl,hf2⟩;generalize hm:namedM l[j]=m;have HM:=Zh hm;clear hm;cases m with
   |true=>
    go_wp2_with fail;go_roundw
    case rel=>exact⟨j+1,by go_num,by omega,hfr.trans hf2,till HN.out fun _=>HM.out⟩
    case measure=>simp[intOf];omega
   |false=>
    go_wp2_with fail;go_ret;exact⟨ret_bool (all_false_of j hlt HM.out).symm,hfr.trans hf2⟩
  ·go_wp2_with fail;go_ret;exact⟨ret_bool (all_true_of fun q hq=>HN.out q (by omega) hq).symm,hfr⟩
def exM (e:Ex):Bool:=Ex.may e 1
theorem exM_any (e:Ex) (ok:Nat→Prop) (A:Option Addr) (c:Nat) (w:World) (hr:RdRows ok w 5 A 0 (Ex.ds e.kids)) (h1:e.kids.length≤c) (h2:e.kids.length*64≤reach):
  Calls Tryz.prog 110 #[exV e.kind e.num e.name e.op A e.kids.length c] w fun r w'=>r= .returned (.bool (exM e))∧Fr Non w w':=by
 have:=mayE_any e.kind e.num e.name e.op e.kids ok A c w hr h1 h2;rw[ex_eta] at this;exact this
theorem exprsM_any (l:List Ex) (n:Int) (ok:Nat→Prop) (A:Option Addr) (c:Nat) (w:World) (hr:RdRows ok w 5 A 0 (Ex.ds l)) (hc:l.length*64≤reach):
  Calls Tryz.prog 74 #[.slice A l.length c,.int .i64 n] w fun e w'=>e= .returned (.bool (l.all exM&&((l.length:Int)==n)))∧Fr Non w w':=by
 have hlen:l.length≤140737488355328:=by unfold reach at hc;omega
 have HR:=Zh hr;clear hr;go_enter Tryz.func74,Tryz.ntmps74;go_wp2_with fail
 go_loopw [5] (fun i wr=>∃j:Nat,i= .int .i64 j∧j≤l.length∧Fr Non w wr∧∀q,q<j→∀hq:q<l.length,exM l[q]=true) (fun i _=>l.length-(intOf i).toNat)
 case atStart=>exact⟨0,rfl,by omega,Zf _,fun j hj=>by omega⟩
 case round=>
  obtain⟨j,rfl,hj,hfr,hno⟩:=hrel;have HN:=Zh hno;clear hno;by_cases hlt:j<l.length
  ·obtain⟨b,o1,A1,c1,rfl,hb,e0,e1,e2,e3,e4,p1,p2,p3⟩:=at_ex (HR.out.fr hfr (fun _ _=>non _) (fun _ h=>h)) j hlt;have P3:=Zh p3;clear p3;go_wp2_with fail;refine(exM_any l[j] ok A1 c1 _ P3.out p1 p2).mono ?_;rintro e w2 ⟨rfl,hf2⟩;generalize hm:exM l[j]=m;have HM:=Zh hm;clear hm;cases m with
   |true=>
    go_wp2_with fail;go_roundw
    case rel=>exact⟨j+1,by go_num,by omega,hfr.trans hf2,till HN.out fun _=>HM.out⟩
    case measure=>simp[intOf];omega
   |false=>
    go_wp2_with fail;go_ret;exact⟨ret_bool (by rw[all_false_of j hlt HM.out];rfl),hfr.trans hf2⟩
  ·go_wp2_with fail;go_ret;exact⟨ret_bool (by rw[all_true_of (l:=l) fun q hq=>HN.out q (by omega) hq];rfl),hfr⟩
def headM (k:UInt8) (f:ByteArray) (s m:Bool) (nb ne:Nat):Bool:=nIs k&&(!s||nSec k)&&(!m||nMut k)&&(nb==0||nBody k)&&(ne==0||nElse k)&&namedX f (nFrom k)
def callM (n:ByteArray) (ex:List Ex) (args:List ByteArray):Bool:=(emp n||namedM n)&&ex.all exM&&decide (ex.length≤8)&&args.all namedM&&decide (args.length≤8)
def restM (k:UInt8) (n:ByteArray) (ex:List Ex) (args:List ByteArray):Bool:=namedX n (nName k)&&(args.length==0)&&(ex.all exM&&((ex.length:Int)==nEx k))
def formM (s:St):Bool:=headM s.kind s.frm s.sec s.mt s.body.length s.els.length&&if s.kind.toNat=11 then callM s.name s.ex s.args else restM s.kind s.name s.ex s.args
theorem form_any (s:St) (ok:Nat→Prop) (A1 A2 A3 A4:Option Addr) (c1 c2 c3 c4:Nat) (w:World) (r1:RdRows ok w 5 A1 0 (Ex.ds s.ex)) (q1:s.ex.length*64≤reach) (r2:RdRows ok w 1 A2 0 (s.args.map strD)) (q2:s.args.length*16≤reach) (q3:s.body.length*144≤reach) (q4:s.els.length*144≤reach):
  Calls Tryz.prog 72 #[.agg #[vu8 s.kind,.string s.name,.string s.frm,.bool s.sec,.bool s.mt,.slice A1 s.ex.length c1,.slice A2 s.args.length c2,.slice A3 s.body.length c3,.slice A4 s.els.length c4]] w fun e w'=>e= .returned (.bool (formM s))∧Fr Non w w':=by
 have hl1:s.ex.length≤140737488355328:=by unfold reach at q1;omega
 have hl2:s.args.length≤140737488355328:=by unfold reach at q2;omega
 have hl3:s.body.length≤140737488355328:=by unfold reach at q3;omega
 have hl4:s.els.length≤140737488355328:=by unfold reach at q4;omega
 have R1:=Zh r1;clear r1;have R2:=Zh r2;clear r2;have Q1:=Zh q1;clear q1;have Q2:=Zh q2;clear q2 q3 q4;go_enter Tryz.func72,Tryz.ntmps72;go_wp2_with fail;refine(needs_any _ _).mono ?_;rintro e w1 ⟨rfl,hf1⟩;have hb1:=Zb (blk_new _ _ _) hf1 (non _);have HF1:=Zh (box_fr hf1);clear hf1;have HB1:=Zh hb1;clear hb1;unfold needV;go_upto_region 2 with fail;obtain⟨W1,HW1⟩:∃W1,W1=w1.alloc (.cells #[.int .i64 (nEx s.kind),.bool (nName s.kind),.bool (nFrom s.kind),.bool (nSec s.kind),.bool (nMut s.kind),.bool (nBody s.kind),.bool (nElse s.kind)] 149):=⟨_,rfl⟩;rw[←HW1];have hbb:W1.heap[w.heap.size]? =some (.cells #[vu8 s.kind,.string s.name,.string s.frm,.bool s.sec,.bool s.mt,.slice A1 s.ex.length c1,.slice A2 s.args.length c2,.slice A3 s.body.length c3,.slice A4 s.els.length c4] 42 (0,0)):=by rw[HW1];exact blk_old HB1.out
 have hbn:W1.heap[w1.heap.size]? =some (.cells #[.int .i64 (nEx s.kind),.bool (nName s.kind),.bool (nFrom s.kind),.bool (nSec s.kind),.bool (nMut s.kind),.bool (nBody s.kind),.bool (nElse s.kind)] 149 (0,0)):=by rw[HW1];exact blk_new _ _ _
 have hfw:Fr Non w W1:=by rw[HW1];exact HF1.out.alloc _
 clear HW1;have b2:=(Zc hbb).1 2 _ rfl;have b3:=(Zc hbb).1 3 _ rfl;have b4:=(Zc hbb).1 4 _ rfl;have b7:=(Zc hbb).1 7 _ rfl;have b8:=(Zc hbb).1 8 _ rfl;have n2:=(Zc hbn).1 2 _ rfl;have n3:=(Zc hbn).1 3 _ rfl;have n4:=(Zc hbn).1 4 _ rfl;have n5:=(Zc hbn).1 5 _ rfl;have n6:=(Zc hbn).1 6 _ rfl;have HBB:=Zh hbb;clear hbb;have HBN:=Zh hbn;clear hbn;have HFW:=Zh hfw;clear hfw
 go_cut [0,4,60] (fun v0 v4 v wx=>v= .bool (!headM s.kind s.frm s.sec s.mt s.body.length s.els.length)∧Fr Non W1 wx)
 case first=>
  go_wp2_with fail;all_goals try
   refine(namedX_any _ _ _).mono ?_;rintro e w2 ⟨rfl,hf2⟩;go_wp2_with fail
  all_goals go_meet
  all_goals (refine⟨congrArg Value.bool ?_,?_⟩;rotate_left;first|exact Zf _|exact hf2)
  all_goals (clear b2 b3 b4 b7 b8 n2 n3 n4 n5 n6 HBB HBN HF1 HB1 HFW R1 R2 Q1 Q2)
  all_goals simp_all [headM,Nat.pos_iff_ne_zero]
 case rest=>
  obtain⟨rfl,hfx⟩:=hcut;have hbb':=Zb HBB.out hfx (non _);have hbn':=Zb HBN.out hfx (non _);have HFX:=Zh (HFW.out.trans hfx);clear hfx b2 b3 b4 b7 b8 n2 n3 n4 n5 n6;have b0:=(Zc hbb').1 0 _ rfl;have b1:=(Zc hbb').1 1 _ rfl;have b5:=(Zc hbb').1 5 _ rfl;have b6:=(Zc hbb').1 6 _ rfl;have n0:=(Zc hbn').1 0 _ rfl;have n1:=(Zc hbn').1 1 _ rfl;have HBB':=Zh hbb';clear hbb';have HBN':=Zh hbn';clear hbn';generalize hh:headM s.kind s.frm s.sec s.mt s.body.length s.els.length=hd;have HH:=Zh hh;clear hh;cases hd with
  |false=>
   go_wp2_with fail;go_ret;exact⟨ret_bool (by rw[formM,HH.out];rfl),HFX.out⟩
  |true=>
   by_cases hk:s.kind.toNat=11
   ·have hk':(((s.kind.toNat:Int))==11)=true:=by simp[hk]
    have HK:=Zh hk;clear hk;cases he:emp s.name with
    |true=>
     have he':s.name.toList.isEmpty=true:=by rw[toemp];exact he
     have EE:=Zh (show(emp s.name||namedM s.name)=true by rw[he];rfl);clear he;go_wp2_with fail;have b5':=b5;have b6':=b6;clear b0 b1 b5 b6 n0 n1;have HF2:=HFX;refine(exprsM_any s.ex _ ok A1 c1 _ (R1.out.fr HF2.out (fun _ _=>non _) (fun _ h=>h)) Q1.out).mono ?_;rintro e w3 ⟨rfl,hf3⟩;rw[show(s.ex.all exM&&((s.ex.length:Int)==(s.ex.length:Int)))=s.ex.all exM by simp];have b5'':=hf3.cell' b5' (non _);have b6'':=hf3.cell' b6' (non _);clear b5' b6';have HF3:=Zh (HF2.out.trans hf3);clear hf3;generalize hm2:s.ex.all exM=m2;have HM2:=Zh hm2;clear hm2;cases m2 with
     |false=>
      go_wp2_with fail;go_ret;exact⟨ret_bool (by rw[formM,HH.out,if_pos HK.out,callM,EE.out,HM2.out];rfl),HF3.out⟩
     |true=>
     by_cases h8:s.ex.length≤8
     ·have H8:=Zh (decide_eq_true h8);go_wp2_with fail;refine(names_any s.args ok A2 c2 _ (R2.out.fr HF3.out (fun _ _=>non _) (fun _ h=>h)) Q2.out).mono ?_;rintro e w4 ⟨rfl,hf4⟩;have b6''':=hf4.cell' b6'' (non _);clear b5'' b6'';have HF4:=Zh (HF3.out.trans hf4);clear hf4;generalize hm3:s.args.all namedM=m3;have HM3:=Zh hm3;clear hm3;cases m3 with
      |false=>
       go_wp2_with fail;go_ret;exact⟨ret_bool (by rw[formM,HH.out,if_pos HK.out,callM,EE.out,HM2.out,H8.out,HM3.out];rfl),HF4.out⟩
      |true=>
       go_wp2_with fail;go_ret;exact⟨ret_bool (by rw[formM,HH.out,if_pos HK.out,callM,EE.out,HM2.out,H8.out,HM3.out,Bool.eq_iff_iff];simp;try omega),HF4.out⟩
     ·have H8:=Zh (decide_eq_false h8);go_wp2_with fail;go_ret;exact⟨ret_bool (by rw[formM,HH.out,if_pos HK.out,callM,EE.out,HM2.out,H8.out];rfl),HF3.out⟩
    |false=>
     have he':s.name.toList.isEmpty=false:=by rw[toemp];exact he
     have HE:=Zh he;clear he;go_wp2_with fail;refine(named_any _ _).mono ?_;rintro e w2 ⟨rfl,hf2⟩;have b5':=hf2.cell' b5 (non _);have b6':=hf2.cell' b6 (non _);clear b0 b1 b5 b6 n0 n1;have HF2:=Zh (HFX.out.trans hf2);clear hf2;generalize hm:namedM s.name=m;have EE:=Zh (show(emp s.name||namedM s.name)=m by rw[HE.out,hm];rfl);clear hm;cases m with
     |false=>
      go_wp2_with fail;go_ret;exact⟨ret_bool (by rw[formM,HH.out,if_pos HK.out,callM,EE.out];rfl),HF2.out⟩
     |true=>
     go_wp2_with fail;refine(exprsM_any s.ex _ ok A1 c1 _ (R1.out.fr HF2.out (fun _ _=>non _) (fun _ h=>h)) Q1.out).mono ?_;rintro e w3 ⟨rfl,hf3⟩;rw[show(s.ex.all exM&&((s.ex.length:Int)==(s.ex.length:Int)))=s.ex.all exM by simp];have b5'':=hf3.cell' b5' (non _);have b6'':=hf3.cell' b6' (non _);clear b5' b6';have HF3:=Zh (HF2.out.trans hf3);clear hf3;generalize hm2:s.ex.all exM=m2;have HM2:=Zh hm2;clear hm2;cases m2 with
     |false=>
      go_wp2_with fail;go_ret;exact⟨ret_bool (by rw[formM,HH.out,if_pos HK.out,callM,EE.out,HM2.out];rfl),HF3.out⟩
     |true=>
     by_cases h8:s.ex.length≤8
     ·have H8:=Zh (decide_eq_true h8);go_wp2_with fail;refine(names_any s.args ok A2 c2 _ (R2.out.fr HF3.out (fun _ _=>non _) (fun _ h=>h)) Q2.out).mono ?_;rintro e w4 ⟨rfl,hf4⟩;have b6''':=hf4.cell' b6'' (non _);clear b5'' b6'';have HF4:=Zh (HF3.out.trans hf4);clear hf4;generalize hm3:s.args.all namedM=m3;have HM3:=Zh hm3;clear hm3;cases m3 with
      |false=>
       go_wp2_with fail;go_ret;exact⟨ret_bool (by rw[formM,HH.out,if_pos HK.out,callM,EE.out,HM2.out,H8.out,HM3.out];rfl),HF4.out⟩
      |true=>
       go_wp2_with fail;go_ret;exact⟨ret_bool (by rw[formM,HH.out,if_pos HK.out,callM,EE.out,HM2.out,H8.out,HM3.out,Bool.eq_iff_iff];simp;try omega),HF4.out⟩
     ·have H8:=Zh (decide_eq_false h8);go_wp2_with fail;go_ret;exact⟨ret_bool (by rw[formM,HH.out,if_pos HK.out,callM,EE.out,HM2.out,H8.out];rfl),HF3.out⟩
   ·have hk':(((s.kind.toNat:Int))==11)=false:=by simp;omega
    have HK:=Zh hk;clear hk;go_wp2_with fail;refine(namedX_any _ _ _).mono ?_;rintro e w2 ⟨rfl,hf2⟩;have b5':=hf2.cell' b5 (non _);have b6':=hf2.cell' b6 (non _);have n0':=hf2.cell' n0 (non _);clear b0 b1 b5 b6 n0 n1;generalize hm:namedX s.name (nName s.kind)=m;have HM:=Zh hm;clear hm;have HF2:=Zh (HFX.out.trans hf2);clear hf2;cases m with
    |false=>
     go_wp2_with fail;go_ret;exact⟨ret_bool (by rw[formM,HH.out,if_neg HK.out,restM,HM.out];rfl),HF2.out⟩
    |true=>
     by_cases hz:s.args.length=0
     ·have hz':(((s.args.length:Int))==0)=true:=by simp[hz]
      have HZ:=Zh hz;clear hz;go_wp2_with fail;refine(exprsM_any s.ex _ ok A1 c1 _ (R1.out.fr HF2.out (fun _ _=>non _) (fun _ h=>h)) Q1.out).mono ?_;rintro e w3 ⟨rfl,hf3⟩;go_wp2_with fail;go_ret;exact⟨ret_bool (by rw[formM,HH.out,if_neg HK.out,restM,HM.out,HZ.out];rfl),HF2.out.trans hf3⟩
     ·have hz':(((s.args.length:Int))==0)=false:=by simp;intro h;simp[h] at hz
      have HZ:=Zh (show(s.args.length==0)=false by simp;intro h;simp[h] at hz);clear hz;go_wp2_with fail;go_ret;exact⟨ret_bool (by rw[formM,HH.out,if_neg HK.out,restM,HM.out,HZ.out];rfl),HF2.out⟩
mutual
def St.ok:St→Nat→Bool
 | .mk k n f s m ex args body els,deep=>decide (deep≤40)&&formM (.mk k n f s m ex args body els)&&St.oks body (deep+1)&&St.oks els (deep+1)
def St.oks:List St→Nat→Bool
 |[],_=>true
 |s::l,deep=>St.ok s deep&&St.oks l deep
end
theorem oks_true:∀(l:List St) (d:Nat),(∀j (h:j<l.length),St.ok l[j] d=true)→St.oks l d=true
 |[],_,_=>rfl
 |e::l,d,h=>by
  simp only[St.oks,Bool.and_eq_true];exact⟨h 0 (by simp),oks_true l d fun j hj=>h (j+1) (by simpa using hj)⟩
theorem oks_false:∀(l:List St) (d:Nat) (j:Nat) (h:j<l.length),St.ok l[j] d=false→St.oks l d=false
 |e::l,d,0,_,h=>by simp[St.oks,show St.ok e d=false from h]
 |e::l,d,j+1,h1,h=>by simp[St.oks,oks_false l d j (by simpa using h1) (by simpa using h)]
theorem St.ok_eq (s:St) (d:Nat):s.ok d=(decide (d≤40)&&formM s&&St.oks s.body (d+1)&&St.oks s.els (d+1)):=by cases s;rfl
theorem sizes_take (l:List St) (j:Nat) (h:j<l.length):St.sizes (l.take (j+1))=St.sizes (l.take j)+l[j].size:=by
 induction l generalizing j with
 |nil=>simp at h
 |cons e l ih=>
  cases j with
  |zero=>simp[St.sizes]
  |succ j=>have:=ih j (by simpa using h);simp[St.sizes] at this ⊢;omega
theorem sizes_take_le (l:List St) (j:Nat):St.sizes (l.take j)≤St.sizes l:=by
 induction l generalizing j with
 |nil=>simp[St.sizes]
 |cons e l ih=>
  cases j with
  |zero=>simp[St.sizes]
  |succ j=>have:=ih j;simp[St.sizes];omega
def cntM (l:List St) (d:Nat):Int:=if St.oks l d then(St.sizes l:Int) else -1
theorem cnt_true {l:List St} {d:Nat} (h:St.oks l d=true):cntM l d=St.sizes l:=if_pos h
theorem cnt_false {l:List St} {d:Nat} (h:St.oks l d=false):cntM l d= -1:=if_neg (by simp[h])
theorem count_any (N:Nat):∀(l:List St) (deep:Nat) (ok:Nat→Prop) (A:Option Addr) (c:Nat) (w:World),St.sizes l≤N→St.sizes l≤1099511627776→deep≤41→RdRows ok w 9 A 0 (St.ds l)→l.length*144≤reach→
  Calls Tryz.prog 46 #[.slice A l.length c,.int .i64 (deep:Int)] w fun e w'=>e= .returned (.int .i64 (cntM l deep))∧Fr Non w w':=by
 induction N with
 |zero=>
  intro l deep ok A c w hN hN2 hd hr hc;obtain rfl:l=[]:=by cases l with|nil=>rfl|cons s l=>cases s;simp[St.sizes,St.size] at hN
  go_enter Tryz.func46,Tryz.ntmps46;go_wp2_with fail;refine wp_loop_rounds 1 ?_;rw[rounds_succ];go_wp2_with fail;go_ret;exact⟨rfl,Zf _⟩
 |succ N ih=>
 intro l deep ok A c w hN hN2 hd hr hc;have hlen:l.length≤140737488355328:=by unfold reach at hc;omega
 have IH:=Zh ih;clear ih;have HR:=Zh hr;clear hr;have HC:=Zh hc;clear hc;have HNN:=Zh hN;clear hN;go_enter Tryz.func46,Tryz.ntmps46;go_wp2_with fail
 go_loopw [5,6] (fun t i wr=>∃j:Nat,i= .int .i64 j∧t= .int .i64 (St.sizes (l.take j))∧j≤l.length∧Fr Non w wr∧∀q,q<j→∀hq:q<l.length,St.ok l[q] deep=true) (fun _ i _=>l.length-(intOf i).toNat)
 case atStart=>exact⟨0,rfl,by simp[St.sizes],by omega,Zf _,fun j hj=>by omega⟩
 case round=>
  obtain⟨j,rfl,rfl,hj,hfr,hno⟩:=hrel;have HN:=Zh hno;clear hno;by_cases hlt:j<l.length
  ·obtain⟨b,o1,A1,c1,A2,c2,A3,c3,A4,c4,rfl,hb,e0,e1,e2,e3,e4,e5,e6,e7,e8,⟨p1,q1,r1⟩,⟨p2,q2,r2⟩,⟨p3,q3,r3⟩,⟨p4,q4,r4⟩⟩:=at_st (HR.out.fr hfr (fun _ _=>non _) (fun _ h=>h)) j hlt;have R1:=Zh r1;clear r1;have R2:=Zh r2;clear r2;have R3:=Zh r3;clear r3;have R4:=Zh r4;clear r4;have HQ:=Zh (ssize_le l j hlt);have HT:=Zh (sizes_take l j hlt);have HT2:=Zh (sizes_take_le l (j+1));have HF:=Zh hfr;clear hfr;by_cases hdd:deep≤40
   ·go_wp2_with fail;refine(form_any l[j] ok A1 A2 A3 A4 c1 c2 c3 c4 wr R1.out q1 R2.out q2 q3 q4).mono ?_;rintro e w2 ⟨rfl,hf2⟩;have x7:=ext_cell (hf2.cell' e7 (non _));have x8:=ext_cell (hf2.cell' e8 (non _));generalize hm:formM l[j]=m;have HM:=Zh hm;clear hm;clear e0 e1 e2 e3 e4 e5 e6 e7 e8;have HF2:=Zh (HF.out.trans hf2);have HG2:=Zh hf2;clear hf2;cases m with
    |false=>
     go_wp2_with fail;go_ret;exact⟨ret_int (cnt_false (oks_false _ _ j hlt (by rw[St.ok_eq,HM.out];simp))).symm,HF2.out⟩
    |true=>
     go_wp2_with fail;refine wp_region_ext (by kernel_rfl) (by kernel_rfl) ?_
     repeat (go_big_quiet_step (fail))
     go_big_quiet_want;go_big_quiet_op;apply Exists.intro;refine⟨fun x=>?_,?_⟩
     ·exact calls_ext (v:=.int .i64 (cntM l[j].body (deep+1))) (IH.out l[j].body (deep+1) ok A3 c3 _ (by have:=HNN.out;have:=HQ.out;rw[St.size_eq] at this;omega) (by have:=HQ.out;rw[St.size_eq] at this;omega) (by omega) (R3.out.fr (HG2.out.trans (ext_fr _ _)) (fun _ _=>non _) (fun _ h=>h)) q3)
     go_big_quiet_on
     repeat (go_big_quiet_step (fail))
     go_big_quiet_want;go_big_quiet_op;apply Exists.intro;refine⟨fun x=>?_,?_⟩
     ·exact calls_ext (v:=.int .i64 (cntM l[j].els (deep+1))) (IH.out l[j].els (deep+1) ok A4 c4 _ (by have:=HNN.out;have:=HQ.out;rw[St.size_eq] at this;omega) (by have:=HQ.out;rw[St.size_eq] at this;omega) (by omega) (R4.out.fr (HG2.out.trans (ext_fr _ _)) (fun _ _=>non _) (fun _ h=>h)) q4)
     go_big_quiet_on
     repeat (go_big_quiet_step (fail))
     refine wpQuiet_nil ?_;intro w3 hf3;clear x7 x8;have HF3:=Zh (HF2.out.trans hf3);clear hf3;have hs1:St.sizes (l.take j)+1+St.sizes l[j].body+St.sizes l[j].els≤1099511627776:=by have:=HT.out;have:=HT2.out;rw[St.size_eq] at*;omega
     cases hob:St.oks l[j].body (deep+1) with
     |false=>
      rw[cnt_false hob];have HB:=Zh hob;clear hob;go_wp2_with fail;go_ret;exact⟨ret_int (cnt_false (oks_false _ _ j hlt (by rw[St.ok_eq,HB.out];simp))).symm,HF3.out⟩
     |true=>
      rw[cnt_true hob];have HB:=Zh hob;clear hob;cases hoe:St.oks l[j].els (deep+1) with
      |false=>
       rw[cnt_false hoe];have HE:=Zh hoe;clear hoe;go_wp2_with fail;go_ret;exact⟨ret_int (cnt_false (oks_false _ _ j hlt (by rw[St.ok_eq,HE.out];simp))).symm,HF3.out⟩
      |true=>
       rw[cnt_true hoe];have HE:=Zh hoe;clear hoe;go_wp2_with fail;go_roundw
       case rel=>exact⟨j+1,by go_num,by rw[HT.out,St.size_eq];congr 1;omega,by omega,HF3.out,till HN.out fun _=>by rw[St.ok_eq,HM.out,HB.out,HE.out,decide_eq_true hdd];rfl⟩
       case measure=>simp[intOf];omega
   ·go_wp2_with fail;go_ret;exact⟨ret_int (cnt_false (oks_false _ _ j hlt (by rw[St.ok_eq,decide_eq_false hdd];rfl))).symm,HF.out⟩
  ·go_wp2_with fail;go_ret;obtain rfl:j=l.length:=by omega
   rw[List.take_length];exact⟨ret_int (cnt_true (oks_true _ _ fun q hq=>HN.out q (by omega) hq)).symm,hfr⟩
def parM (x:Pa):Bool:=namedM x.name&&(!x.mt||x.buf)
def fheadM (f:Fu):Bool:=namedM f.name&&decide (f.params.length≤8)&&decide (f.ret.length≤1)&&f.ret.all exM&& !(f.ret.length==0&&f.sec)
def funM (f:Fu):Bool:=fheadM f&&f.params.all parM
theorem function_any (f:Fu) (ok:Nat→Prop) (A1 A2 A3:Option Addr) (c1 c2 c3:Nat) (w:World) (r1:RdRows ok w 4 A1 0 (f.params.map Pa.d)) (q1:f.params.length*24≤reach) (r3:RdRows ok w 5 A3 0 (Ex.ds f.ret)) (q3:f.ret.length*64≤reach):
  Calls Tryz.prog 47 #[.agg #[.string f.name,.slice A1 f.params.length c1,.slice A2 f.body.length c2,.bool f.sec,.slice A3 f.ret.length c3]] w fun e w'=>e= .returned (.bool (funM f))∧Fr Non w w':=by
 have hl1:f.params.length≤140737488355328:=by unfold reach at q1;omega
 have hl3:f.ret.length≤140737488355328:=by unfold reach at q3;omega
 have R1:=Zh r1;clear r1;have R3:=Zh r3;clear r3;have Q3:=Zh q3;clear q1 q3;go_enter Tryz.func47,Tryz.ntmps47;go_upto_region 1 with fail;obtain⟨W1,HW1⟩:∃W1,W1=w.alloc (.cells #[.string f.name,.slice A1 f.params.length c1,.slice A2 f.body.length c2,.bool f.sec,.slice A3 f.ret.length c3] 53):=⟨_,rfl⟩;rw[←HW1];have hbb:W1.heap[w.heap.size]? =some (.cells #[.string f.name,.slice A1 f.params.length c1,.slice A2 f.body.length c2,.bool f.sec,.slice A3 f.ret.length c3] 53 (0,0)):=by rw[HW1];exact blk_new _ _ _
 have hfw:Fr Non w W1:=by rw[HW1];exact(Zf w).alloc _
 clear HW1;have HBB:=Zh hbb;clear hbb;have HFW:=Zh hfw;clear hfw
 go_cut [0,38] (fun v0 v wx=>v= .bool (!fheadM f)∧Fr Non W1 wx)
 case first=>
  have g0:=(Zc HBB.out).1 0 _ rfl;go_wp2_with fail;refine(named_any _ _).mono ?_;rintro e w2 ⟨rfl,hf2⟩;have hb2:=Zb HBB.out hf2 (non _);have g1:=(Zc hb2).1 1 _ rfl;have g3:=(Zc hb2).1 3 _ rfl;have g4:=(Zc hb2).1 4 _ rfl;clear g0;have HB2:=Zh hb2;clear hb2;generalize hm:namedM f.name=m;have HM:=Zh hm;clear hm;have HF2:=Zh hf2;clear hf2;cases m with
  |false=>
   go_wp2_with fail
   go_meet
   exact⟨congrArg Value.bool (by simp[fheadM,HM.out]<;>omega),HF2.out⟩
  |true=>
  by_cases h8:f.params.length≤8
  ·by_cases h1:f.ret.length≤1
   ·go_wp2_with fail;refine(exprsM_any f.ret _ ok A3 c3 _ (R3.out.fr (HFW.out.trans HF2.out) (fun _ _=>non _) (fun _ h=>h)) Q3.out).mono ?_;rintro e w3 ⟨rfl,hf3⟩;rw[show(f.ret.all exM&&((f.ret.length:Int)==(f.ret.length:Int)))=f.ret.all exM by simp];have hb3:=Zb HB2.out hf3 (non _);clear g1 g3 g4;have g3:=(Zc hb3).1 3 _ rfl;have g4:=(Zc hb3).1 4 _ rfl;have HB3:=Zh hb3;clear hb3;generalize hm2:f.ret.all exM=m2;have HM2:=Zh hm2;clear hm2;have HF3:=Zh (HF2.out.trans hf3);clear hf3;cases m2 with
    |false=>
     go_wp2_with fail
     go_meet
     exact⟨congrArg Value.bool (by simp[fheadM,HM2.out]<;>omega),HF3.out⟩
    |true=>
     by_cases hz:f.ret.length=0
     ·have HZ:=Zh hz;cases hs:f.sec with
      |true=>
       rw[hs] at g3;have HS:=Zh hs;clear hs;go_wp2_with fail
       go_meet
       exact⟨congrArg Value.bool (by simp[fheadM,HZ.out,HS.out]<;>omega),HF3.out⟩
      |false=>
       rw[hs] at g3;have HS:=Zh hs;clear hs;go_wp2_with fail
       go_meet
       exact⟨congrArg Value.bool (by rw[fheadM,HM.out,HM2.out,decide_eq_true h8,decide_eq_true h1,HS.out];simp;omega),HF3.out⟩
     ·go_wp2_with fail
      go_meet
      exact⟨congrArg Value.bool (by rw[fheadM,HM.out,HM2.out,decide_eq_true h8,decide_eq_true h1,show(f.ret.length==0)=false by simpa using hz];simp;omega),HF3.out⟩
   ·go_wp2_with fail
    go_meet
    exact⟨congrArg Value.bool (by simp[fheadM,h1]<;>omega),HF2.out⟩
  ·go_wp2_with fail
   go_meet
   exact⟨congrArg Value.bool (by simp[fheadM,h8]<;>omega),HF2.out⟩
 case rest=>
  obtain⟨rfl,hfx⟩:=hcut;have hbx:=Zb HBB.out hfx (non _);have HBX:=Zh hbx;clear hbx;have HFX:=Zh (HFW.out.trans hfx);clear hfx;generalize hh:fheadM f=hd;have HH:=Zh hh;clear hh;cases hd with
  |false=>
   go_wp2_with fail;go_ret;exact⟨ret_bool (by rw[funM,HH.out];rfl),HFX.out⟩
  |true=>
   rw[show(!true)=false from rfl];go_wp2_with fail
   go_loopw [3] (fun i wr=>∃j:Nat,i= .int .i64 j∧j≤f.params.length∧Fr Non wc wr∧∀q,q<j→∀hq:q<f.params.length,parM f.params[q]=true) (fun i _=>f.params.length-(intOf i).toNat)
   case atStart=>exact⟨0,rfl,by omega,Zf _,fun j hj=>by omega⟩
   case round=>
    obtain⟨j,rfl,hj,hfr,hno⟩:=hrel;have HN:=Zh hno;clear hno;have hbr:=Zb HBX.out hfr (non _);have g1:=(Zc hbr).1 1 _ rfl;have HBR:=Zh hbr;clear hbr;by_cases hlt:j<f.params.length
    ·obtain⟨b,o1,rfl,hb,e0,e1,e2,e3⟩:=at_pa (R1.out.fr (HFX.out.trans hfr) (fun _ _=>non _) (fun _ h=>h)) j hlt;have HF:=Zh hfr;clear hfr;go_wp2_with fail;refine(named_any _ _).mono ?_;rintro e w2 ⟨rfl,hf2⟩;have g1':=(Zc (Zb HBR.out hf2 (non _))).1 1 _ rfl;have e1':=hf2.cell' e1 (non _);have e3':=hf2.cell' e3 (non _);clear g1 e0 e1 e2 e3;generalize hm:namedM f.params[j].name=m;have HM:=Zh hm;clear hm;have HF2:=Zh (HF.out.trans hf2);clear hf2;cases m with
     |false=>
      go_wp2_with fail;go_ret;exact⟨ret_bool (by rw[funM,HH.out,all_false_of (p:=parM) j hlt (by simp[parM,HM.out])];rfl),HFX.out.trans HF2.out⟩
     |true=>
      cases hmt:f.params[j].mt with
      |false=>
       rw[hmt] at e3';have HMT:=Zh hmt;clear hmt;go_wp2_with fail;go_roundw
       case rel=>exact⟨j+1,by go_num,by omega,HF2.out,till HN.out fun _=>by simp[parM,HM.out,HMT.out]⟩
       case measure=>simp[intOf];omega
      |true=>
       rw[hmt] at e3';have HMT:=Zh hmt;clear hmt;cases hbf:f.params[j].buf with
       |true=>
        rw[hbf] at e1';have HBF:=Zh hbf;clear hbf;go_wp2_with fail;go_roundw
        case rel=>exact⟨j+1,by go_num,by omega,HF2.out,till HN.out fun _=>by simp[parM,HM.out,HMT.out,HBF.out]⟩
        case measure=>simp[intOf];omega
       |false=>
        rw[hbf] at e1';have HBF:=Zh hbf;clear hbf;go_wp2_with fail;go_ret;exact⟨ret_bool (by rw[funM,HH.out,all_false_of (p:=parM) j hlt (by simp[parM,HMT.out,HBF.out])];rfl),HFX.out.trans HF2.out⟩
    ·have HF:=Zh hfr;clear hfr;go_wp2_with fail;go_ret;exact⟨ret_bool (by rw[funM,HH.out,all_true_of (p:=parM) (l:=f.params) fun q hq=>HN.out q (by omega) hq];rfl),HFX.out.trans HF.out⟩
def Fu.size (f:Fu):Nat:=St.sizes f.body
def Fu.sizes:List Fu→Nat
 |[]=>0
 |f::l=>f.size+Fu.sizes l
theorem fsizes_take (l:List Fu) (j:Nat) (h:j<l.length):Fu.sizes (l.take (j+1))=Fu.sizes (l.take j)+St.sizes l[j].body:=by
 induction l generalizing j with
 |nil=>simp at h
 |cons e l ih=>
  cases j with
  |zero=>simp[Fu.sizes,Fu.size]
  |succ j=>have:=ih j (by simpa using h);simp[Fu.sizes] at this ⊢;omega
theorem fsizes_take_le (l:List Fu) (j:Nat):Fu.sizes (l.take j)≤Fu.sizes l:=by
 induction l generalizing j with
 |nil=>simp[Fu.sizes]
 |cons e l ih=>
  cases j with
  |zero=>simp[Fu.sizes]
  |succ j=>have:=ih j;simp[Fu.sizes];omega
theorem fsize_le:∀(l:List Fu) (k:Nat) (h:k<l.length),St.sizes l[k].body≤Fu.sizes l
 |e::l,0,_=>by simp[Fu.sizes,Fu.size]
 |e::l,k+1,h=>by have:=fsize_le l k (by simpa using h);simp[Fu.sizes];omega
def okF (f:Fu):Bool:=St.oks f.body 1&&funM f
def mayM (l:List Fu):Bool:=l.all okF&&(decide (l.length≤16)&&decide (Fu.sizes l≤400))
theorem mayP_any (l:List Fu) (ok:Nat→Prop) (A:Option Addr) (c:Nat) (w:World) (hr:RdRows ok w 5 A 0 (l.map Fu.d)) (hc:l.length*96≤reach) (hs:Fu.sizes l≤1099511627776):
  Calls Tryz.prog 20 #[.agg #[.slice A l.length c]] w fun e w'=>e= .returned (.bool (mayM l))∧Fr Non w w':=by
 have hlen:l.length≤140737488355328:=by unfold reach at hc;omega
 have HR:=Zh hr;clear hr;go_enter Tryz.func20,Tryz.ntmps20;go_wp2_with fail;obtain⟨W1,HW1⟩:∃W1,W1=w.alloc (.cells #[.slice A l.length c] 24):=⟨_,rfl⟩;rw[←HW1];have hbb:W1.heap[w.heap.size]? =some (.cells #[.slice A l.length c] 24 (0,0)):=by rw[HW1];exact blk_new _ _ _
 have hfw:Fr Non w W1:=by rw[HW1];exact(Zf w).alloc _
 clear HW1;have HBB:=Zh hbb;clear hbb;have HFW:=Zh hfw;clear hfw
 go_loopw [3,4] (fun t i wr=>∃j:Nat,i= .int .i64 j∧t= .int .i64 (Fu.sizes (l.take j))∧j≤l.length∧Fr Non W1 wr∧∀q,q<j→∀hq:q<l.length,okF l[q]=true) (fun _ i _=>l.length-(intOf i).toNat)
 case atStart=>exact⟨0,rfl,by simp[Fu.sizes],by omega,Zf _,fun j hj=>by omega⟩
 case round=>
  obtain⟨j,rfl,rfl,hj,hfr,hno⟩:=hrel;have HN:=Zh hno;clear hno;have hbr:=Zb HBB.out hfr (non _);have g0:=(Zc hbr).1 0 _ rfl;have HBR:=Zh hbr;clear hbr;by_cases hlt:j<l.length
  ·obtain⟨b,o1,A1,c1,A2,c2,A3,c3,rfl,hb,e0,e1,e2,e3,e4,⟨p1,q1,r1⟩,⟨p2,q2,r2⟩,⟨p3,q3,r3⟩⟩:=at_fu (HR.out.fr (HFW.out.trans hfr) (fun _ _=>non _) (fun _ h=>h)) j hlt;have R1:=Zh r1;clear r1;have R2:=Zh r2;clear r2;have R3:=Zh r3;clear r3;have HF:=Zh hfr;clear hfr;have HQ:=Zh (fsize_le l j hlt);have HT:=Zh (fsizes_take l j hlt);have HT2:=Zh (fsizes_take_le l (j+1));go_wp2_with fail;refine(count_any (St.sizes l[j].body) l[j].body 1 ok A2 c2 wr (Nat.le_refl _) (by have:=HQ.out;omega) (by omega) R2.out q2).mono ?_;rintro e w2 ⟨rfl,hf2⟩;have g0':=(Zc (Zb HBR.out hf2 (non _))).1 0 _ rfl;have e0':=hf2.cell' e0 (non _);have e1':=hf2.cell' e1 (non _);have e2':=hf2.cell' e2 (non _);have e3':=hf2.cell' e3 (non _);have e4':=hf2.cell' e4 (non _);clear g0 e0 e1 e2 e3 e4;have HF2:=Zh (HF.out.trans hf2);have HG2:=Zh hf2;clear hf2;have hs1:Fu.sizes (l.take j)+St.sizes l[j].body≤1099511627776:=by have:=HT.out;have:=HT2.out;omega
   cases hob:St.oks l[j].body 1 with
   |false=>
    rw[cnt_false hob];have HB:=Zh hob;clear hob;go_wp2_with fail;go_ret;exact⟨ret_bool (by rw[mayM,all_false_of (p:=okF) j hlt (by simp[okF,HB.out])];rfl),HFW.out.trans HF2.out⟩
   |true=>
    rw[cnt_true hob];have HB:=Zh hob;clear hob;go_wp2_with fail;refine(function_any l[j] ok A1 A2 A3 c1 c2 c3 w2 (R1.out.fr HG2.out (fun _ _=>non _) (fun _ h=>h)) q1 (R3.out.fr HG2.out (fun _ _=>non _) (fun _ h=>h)) q3).mono ?_;rintro e w3 ⟨rfl,hf3⟩;clear g0' e0' e1' e2' e3' e4';generalize hm:funM l[j]=m;have HM:=Zh hm;clear hm;have HF3:=Zh (HF2.out.trans hf3);clear hf3;cases m with
    |false=>
     go_wp2_with fail;go_ret;exact⟨ret_bool (by rw[mayM,all_false_of (p:=okF) j hlt (by simp[okF,HM.out])];rfl),HFW.out.trans HF3.out⟩
    |true=>
     go_wp2_with fail;go_roundw
     case rel=>exact⟨j+1,by go_num,by rw[HT.out];congr 1<;>omega,by omega,HF3.out,till HN.out fun _=>by simp[okF,HM.out,HB.out]⟩
     case measure=>simp[intOf];omega
  ·obtain rfl:j=l.length:=by omega
   have HA:=Zh (all_true_of (p:=okF) (l:=l) fun q hq=>HN.out q (by omega) hq);have HF:=Zh hfr;clear hfr;rw[List.take_length];by_cases h16:l.length≤16
   ·go_wp2_with fail;go_ret;exact⟨ret_bool (by rw[mayM,HA.out];try (rw[Bool.eq_iff_iff];simp<;>omega)),HFW.out.trans HF.out⟩
   ·go_wp2_with fail;go_ret;exact⟨ret_bool (by rw[mayM,HA.out];try (rw[Bool.eq_iff_iff];simp<;>omega)),HFW.out.trans HF.out⟩
theorem row_fr {base:Nat} {e:TypeId} {sz:Nat} {w w':World} {v:Value} {n:Nat} {xs:List Value} {S:Nat→Prop} (h:w.ownsRow base e sz v n xs) (hf:Fr S w w') (hs:∀k,v.ownBlock=some k→¬S k):w'.ownsRow base e sz v n xs:=by
 obtain⟨h1,h2⟩:=h;refine⟨h1,?_⟩;rcases h2 with h2|⟨g,cap,cur,hv,hb,hh,r⟩
 ·exact .inl h2
 ·exact .inr ⟨g,cap,cur,hv,hb,by rw[hf.block g (Array.getElem?_eq_some_iff.1 hh).1 (hs g (by rw[hv];rfl))];exact hh,r⟩
theorem row_slice {base:Nat} {e:TypeId} {sz:Nat} {w:World} {v:Value} {n:Nat} {xs:List Value} (h:w.ownsRow base e sz v n xs):∃A c,v= .slice A n c∧n≤c:=by
 rcases h.2 with⟨rfl,h2⟩|⟨g,cap,cur,hv,hb,hh,h3,_⟩
 ·exact⟨none,0,by rw[h2],by omega⟩
 ·exact⟨_,cap,hv,h3⟩
theorem row_at {base:Nat} {e:TypeId} {sz:Nat} {w:World} {A:Option Addr} {c n:Nat} {xs:List Value} (h:w.ownsRow base e sz (.slice A n c) n xs) (hn:0<n):∃g,A=some ⟨g,0,none⟩∧base≤g∧∀i u,xs[i]? =some u→w.cell? ⟨g,i,none⟩=some u∧w.frozen? ⟨g,i,none⟩=false:=by
 have h':=h;rcases h.2 with⟨_,h2⟩|⟨g,cap,cur,hv,hb,hh,h3,_⟩
 ·omega
 ·cases hv;refine⟨g,rfl,hb,fun i u hu=>⟨?_,(Zc hh).2 i⟩⟩;have:=h'.cells (g:=g) rfl i u hu;simpa[Addr.add_lit] using this
def Pa.zero:Pa:=⟨⟨#[]⟩,false,false,false⟩
def Fu.zero:Fu:=⟨⟨#[]⟩,[],[],false,[]⟩
def Ex.zero:Ex:=.mk 0 0 ⟨#[]⟩ 0 []
def nob:ByteArray:=⟨#[]⟩
def exAt (ex:List Ex) (i:Nat):Ex:=ex.getD i Ex.zero
theorem blk_put9 {w:World} {g:Nat} {a0 a1 a2 a3 a4 a5 a6 a7 a8:Value} {T:TypeId} (h:w.heap[g]? =some (.cells #[a0,a1,a2,a3,a4,a5,a6,a7,a8] T (0,0))) (v0 v1 v2 v3 v4 v5 v6 v7 v8:Value):
  (((((((((w.setCell ⟨g,0,none⟩ v0).setCell ⟨g,1,none⟩ v1).setCell ⟨g,2,none⟩ v2).setCell ⟨g,3,none⟩ v3).setCell ⟨g,4,none⟩ v4).setCell ⟨g,5,none⟩ v5).setCell ⟨g,6,none⟩ v6).setCell ⟨g,7,none⟩ v7).setCell ⟨g,8,none⟩ v8).heap[g]? =some (.cells #[v0,v1,v2,v3,v4,v5,v6,v7,v8] T (0,0)):=by
 have h0:(w.setCell ⟨g,0,none⟩ v0).heap[g]? =some (.cells #[v0,a1,a2,a3,a4,a5,a6,a7,a8] T (0,0)):=blk_set h 0 v0;have h1:((w.setCell ⟨g,0,none⟩ v0).setCell ⟨g,1,none⟩ v1).heap[g]? =some (.cells #[v0,v1,a2,a3,a4,a5,a6,a7,a8] T (0,0)):=blk_set h0 1 v1;have h2:(((w.setCell ⟨g,0,none⟩ v0).setCell ⟨g,1,none⟩ v1).setCell ⟨g,2,none⟩ v2).heap[g]? =some (.cells #[v0,v1,v2,a3,a4,a5,a6,a7,a8] T (0,0)):=blk_set h1 2 v2;have h3:((((w.setCell ⟨g,0,none⟩ v0).setCell ⟨g,1,none⟩ v1).setCell ⟨g,2,none⟩ v2).setCell ⟨g,3,none⟩ v3).heap[g]? =some (.cells #[v0,v1,v2,v3,a4,a5,a6,a7,a8] T (0,0)):=blk_set h2 3 v3;have h4:(((((w.setCell ⟨g,0,none⟩ v0).setCell ⟨g,1,none⟩ v1).setCell ⟨g,2,none⟩ v2).setCell ⟨g,3,none⟩ v3).setCell ⟨g,4,none⟩ v4).heap[g]? =some (.cells #[v0,v1,v2,v3,v4,a5,a6,a7,a8] T (0,0)):=blk_set h3 4 v4;have h5:((((((w.setCell ⟨g,0,none⟩ v0).setCell ⟨g,1,none⟩ v1).setCell ⟨g,2,none⟩ v2).setCell ⟨g,3,none⟩ v3).setCell ⟨g,4,none⟩ v4).setCell ⟨g,5,none⟩ v5).heap[g]? =some (.cells #[v0,v1,v2,v3,v4,v5,a6,a7,a8] T (0,0)):=blk_set h4 5 v5;have h6:(((((((w.setCell ⟨g,0,none⟩ v0).setCell ⟨g,1,none⟩ v1).setCell ⟨g,2,none⟩ v2).setCell ⟨g,3,none⟩ v3).setCell ⟨g,4,none⟩ v4).setCell ⟨g,5,none⟩ v5).setCell ⟨g,6,none⟩ v6).heap[g]? =some (.cells #[v0,v1,v2,v3,v4,v5,v6,a7,a8] T (0,0)):=blk_set h5 6 v6;have h7:((((((((w.setCell ⟨g,0,none⟩ v0).setCell ⟨g,1,none⟩ v1).setCell ⟨g,2,none⟩ v2).setCell ⟨g,3,none⟩ v3).setCell ⟨g,4,none⟩ v4).setCell ⟨g,5,none⟩ v5).setCell ⟨g,6,none⟩ v6).setCell ⟨g,7,none⟩ v7).heap[g]? =some (.cells #[v0,v1,v2,v3,v4,v5,v6,v7,a8] T (0,0)):=blk_set h6 7 v7;have h8:(((((((((w.setCell ⟨g,0,none⟩ v0).setCell ⟨g,1,none⟩ v1).setCell ⟨g,2,none⟩ v2).setCell ⟨g,3,none⟩ v3).setCell ⟨g,4,none⟩ v4).setCell ⟨g,5,none⟩ v5).setCell ⟨g,6,none⟩ v6).setCell ⟨g,7,none⟩ v7).setCell ⟨g,8,none⟩ v8).heap[g]? =some (.cells #[v0,v1,v2,v3,v4,v5,v6,v7,v8] T (0,0)):=blk_set h7 8 v8;exact h8
theorem fr_put9 {g:Nat} {w:World} {S:Nat→Prop} (hs:S g) (v0 v1 v2 v3 v4 v5 v6 v7 v8:Value):
  Fr S w (((((((((w.setCell ⟨g,0,none⟩ v0).setCell ⟨g,1,none⟩ v1).setCell ⟨g,2,none⟩ v2).setCell ⟨g,3,none⟩ v3).setCell ⟨g,4,none⟩ v4).setCell ⟨g,5,none⟩ v5).setCell ⟨g,6,none⟩ v6).setCell ⟨g,7,none⟩ v7).setCell ⟨g,8,none⟩ v8):=
 (((((((((Fr.refl S w).setCell _ _ (.inl hs)).setCell _ _ (.inl hs)).setCell _ _ (.inl hs)).setCell _ _ (.inl hs)).setCell _ _ (.inl hs)).setCell _ _ (.inl hs)).setCell _ _ (.inl hs)).setCell _ _ (.inl hs)).setCell _ _ (.inl hs)
structure Sc where
 kn:List ByteArray
 gi:List ByteArray
 n:Int
mutual
def Ex.asks (k:ByteArray→Bool):Ex→Bool
 | .mk _ _ nm _ l=>(emp nm||k nm)&&Ex.askss k l
def Ex.askss (k:ByteArray→Bool):List Ex→Bool
 |[]=>true
 |e::l=>Ex.asks k e&&Ex.askss k l
end
def addN (l:List ByteArray) (s:ByteArray):List ByteArray:=if inM l s then l else l++[s]
def delN (l:List ByteArray) (s:ByteArray):List ByteArray:=l.filter fun x=> !sq x s
def Sc.give (a:Sc) (nm:ByteArray):Except (Int×Int) Sc:=if inM a.gi nm then .error (a.n,9) else .ok ⟨addN a.kn nm,addN a.gi nm,a.n⟩
def Sc.del (a:Sc) (nm:ByteArray):Sc:=⟨delN a.kn nm,a.gi,a.n⟩
def Sc.dels (a:Sc) (l:List ByteArray):Sc:=l.foldl Sc.del a
def scHead (P:List Fu) (F:Nat) (k:ByteArray→Bool) (kind:UInt8) (nm fr:ByteArray) (ex:List Ex) (args:List ByteArray):Bool:=
 Ex.askss k ex&&(!(kind.toNat==2||kind.toNat==4)||k nm)&&(!(kind.toNat==8||kind.toNat==9)||k fr)&&
  (!(kind.toNat==11)||(args.all k&&(P.take F).any fun f=>sq f.name fr))
def Sc.gives (a:Sc) (kind:UInt8) (nm:ByteArray):Except (Int×Int) (Sc×List ByteArray):=
 if kind.toNat==2||kind.toNat==4||emp nm then .ok (a,[]) else match a.give nm with
  | .error x=>.error x
  | .ok a1=>.ok (a1,[nm])
mutual
def scStmt (P:List Fu) (F:Nat):St→Sc→Except (Int×Int) (Sc×List ByteArray)
 | .mk k nm fr _ _ ex args body els,a=>
   if !scHead P F (inM a.kn) k nm fr ex args then .error (a.n,3)
   else match a.gives k nm with
    | .error x=>.error x
    | .ok (a1,aw)=>match scStmts P F body a1 [] with
      | .error x=>.error x
      | .ok (a2,aw2)=>match scStmts P F els (a2.dels aw2) [] with
        | .error x=>.error x
        | .ok (a3,aw3)=>if k.toNat==7||k.toNat==8 then .ok ((a3.dels aw3).del nm,[]) else .ok (a3.dels aw3,aw)
def scStmts (P:List Fu) (F:Nat):List St→Sc→List ByteArray→Except (Int×Int) (Sc×List ByteArray)
 |[],a,aw=>.ok (a,aw)
 |x::l,a,aw=>match scStmt P F x ⟨a.kn,a.gi,a.n+1⟩ with
  | .error x=>.error x
  | .ok (a1,aw1)=>scStmts P F l a1 (aw++aw1)
end
def scParams:List Pa→Sc→Except (Int×Int) Sc
 |[],a=>.ok a
 |x::l,a=>match a.give x.name with
  | .error x=>.error x
  | .ok a1=>scParams l a1
def scFun (P:List Fu) (F:Nat) (f:Fu) (n:Int):Except (Int×Int) Int:=
 if(P.take F).any (fun g=>sq g.name f.name) then .error (n,9) else match scParams f.params ⟨[],[],n⟩ with
  | .error x=>.error x
  | .ok a=>match scStmts P F f.body a [] with
    | .error x=>.error x
    | .ok (a1,_)=>if Ex.askss (inM a1.kn) f.ret then .ok (a1.n+1+1) else .error (a1.n+1,3)
def scWalk (P:List Fu):Nat→Except (Int×Int) Int
 |0=>.ok 0
 |i+1=>match scWalk P i with
  | .error x=>.error x
  | .ok n=>scFun P i (P.getD i Fu.zero) n
def scCheck (P:List Fu):Int×Int:=if mayM P then match scWalk P P.length with
 | .error x=>x
 | .ok _=>(0,0) else(0,2)
theorem emp_of_named {s:ByteArray} (h:namedM s=true):emp s=false:=by
 simp[namedM] at h;exact h.1.1.1.1
theorem askss_all (k:ByteArray→Bool):∀l:List Ex,Ex.askss k l=l.all (Ex.asks k)
 |[]=>rfl
 |e::l=>by simp[Ex.askss,askss_all k l]
theorem dels_gi (l:List ByteArray):∀a:Sc,(a.dels l).gi=a.gi∧(a.dels l).n=a.n:=by
 induction l with
 |nil=>intro a;exact⟨rfl,rfl⟩
 |cons y l ih=>intro a;exact ih (a.del y)
def scDels (r:Except (Int×Int) (Sc×List ByteArray)):Except (Int×Int) Sc:=match r with
 | .error x=>.error x
 | .ok (a1,aw)=>.ok (a1.dels aw)
theorem form_mk (k:UInt8) (nm fr:ByteArray) (sec mt:Bool) (ex:List Ex) (args:List ByteArray) (body els:List St):formM (.mk k nm fr sec mt ex args body els)=
 (headM k fr sec mt body.length els.length&&if k.toNat=11 then callM nm ex args else restM k nm ex args):=rfl
structure FormF (k:UInt8) (nm fr:ByteArray) (ex:List Ex) (args:List ByteArray) (body els:List St):Prop where
 k1:1≤k.toNat
 k12:k.toNat≤12
 body:body=[]∨(5≤k.toNat∧k.toNat≤8)
 els:els=[]∨k.toNat=5
 exs:ex.all exM=true
 other:k.toNat≠11→args=[]∧((ex.length:Int)=nEx k)∧namedX nm (nName k)=true
 calls:k.toNat=11→emp nm=true∨namedM nm=true
theorem form_facts {k:UInt8} {nm fr:ByteArray} {sec mt:Bool} {ex:List Ex} {args:List ByteArray} {body els:List St} (h:formM (.mk k nm fr sec mt ex args body els)=true):FormF k nm fr ex args body els:=by
 rw[form_mk,Bool.and_eq_true] at h;obtain⟨hh,hr⟩:=h;simp only[headM,Bool.and_eq_true,Bool.or_eq_true,nIs,nBody,nElse,decide_eq_true_eq,beq_iff_eq,List.length_eq_zero_iff] at hh;obtain⟨⟨⟨⟨⟨hk,_⟩,_⟩,hb⟩,he⟩,_⟩:=hh;split at hr
 ·rename_i h11;simp only[callM,Bool.and_eq_true,Bool.or_eq_true] at hr;exact⟨hk.1,hk.2,hb,he,hr.1.1.1.2,fun h=>absurd h11 h,fun _=>hr.1.1.1.1⟩
 ·rename_i h11;simp only[restM,Bool.and_eq_true,beq_iff_eq,List.length_eq_zero_iff] at hr;exact⟨hk.1,hk.2,hb,he,hr.2.1,fun _=>⟨hr.1.2,hr.2.2,hr.1.1⟩,fun h=>absurd h h11⟩
theorem emp_of_namedX {nm:ByteArray} {b:Bool} (h:namedX nm b=true):emp nm= !b:=by
 cases b
 ·exact h
 ·exact emp_of_named h
def faultV (at_ e:Int):Value:=.iface 34 (.agg #[.int .i64 at_,.int .i64 e])
def faultP (x:Int×Int):Ending:=.panicked [{v:=faultV x.1 x.2,recovered:=false}]
abbrev unitV:Value:=.agg #[]
def uset (l:List ByteArray):List (ByteArray×Value):=l.map fun s=>(s,unitV)
theorem mhas_uset (l:List ByteArray) (s:ByteArray):mhas (uset l) s=inM l s:=by simp[mhas,uset,inM,List.any_map,Function.comp_def]
theorem mget_uset (l:List ByteArray) (s:ByteArray):mget (uset l) s unitV=unitV:=by
 rw[mget];cases h:(uset l).find? fun p=>sq p.1 s with
 |none=>rfl
 |some p=>
  have:=List.mem_of_find?_eq_some h;obtain⟨x,_,rfl⟩:=List.mem_map.1 this;rfl
theorem mput_uset (l:List ByteArray) (s:ByteArray):mput (uset l) s unitV=uset (addN l s):=by
 rw[mput,addN,mhas_uset];split
 ·rw[mset,uset,List.map_map];apply List.map_congr_left;intro x _;simp only[Function.comp];split<;>rfl
 ·simp[uset]
theorem mdel_uset (l:List ByteArray) (s:ByteArray):mdel (uset l) s=uset (delN l s):=by
 simp[mdel,uset,delN,List.filter_map,Function.comp_def]
theorem und78:Tryz.prog.underlying 77=some (.map 9 158):=by kernel_rfl
theorem undStr:Tryz.prog.underlying 9=some .string:=by kernel_rfl
theorem zeroU (w:World):(zeroValue 158).run Tryz.prog w= .ok unitV w:=by kernel_rfl
structure ScAt (base b:Nat) (PV:Value) (w:World) (a:Sc) (bk bg:Nat):Prop where
 blk:w.heap[b]? =some (.cells #[PV,.int .i64 a.n,.map (some bk),.map (some bg)] 79 (0,0))
 kn:MapS w bk (uset a.kn)
 gi:MapS w bg (uset a.gi)
 ne:bk≠bg
 hb:base≤b
 hk:base≤bk
 hg:base≤bg
def SS (b bk bg:Nat) (k:Nat):Prop:=k=b∨k=bk∨k=bg
theorem ScAt.fr {base b:Nat} {PV:Value} {w w':World} {a:Sc} {bk bg:Nat} {S:Nat→Prop} (h:ScAt base b PV w a bk bg) (hf:Fr S w w') (hs:∀k,SS b bk bg k→¬S k):ScAt base b PV w' a bk bg:=
 ⟨Zb h.blk hf (hs _ (.inl rfl)),h.kn.fr hf (hs _ (.inr (.inl rfl))),h.gi.fr hf (hs _ (.inr (.inr rfl))),h.ne,h.hb,h.hk,h.hg⟩
theorem ScAt.stay {base b:Nat} {PV:Value} {w w':World} {a:Sc} {bk bg:Nat} (h:ScAt base b PV w a bk bg) (hf:Fr Non w w'):ScAt base b PV w' a bk bg:=h.fr hf fun _ _=>non _
theorem ScAt.bk_ne {base b:Nat} {PV:Value} {w:World} {a:Sc} {bk bg:Nat} (h:ScAt base b PV w a bk bg):bk≠b∧bg≠b:=by
 have h1:=h.blk;constructor
 ·rintro rfl;obtain⟨es,cl,hb,_⟩:=h.kn;rw[h1] at hb;cases hb
 ·rintro rfl;obtain⟨es,cl,hb,_⟩:=h.gi;rw[h1] at hb;cases hb
theorem ScAt.lt {base b:Nat} {PV:Value} {w:World} {a:Sc} {bk bg:Nat} (h:ScAt base b PV w a bk bg):∀k,SS b bk bg k→base≤k∧k<w.heap.size:=fun k hk=>by
 rcases hk with rfl|rfl|rfl
 ·exact⟨h.hb,blk_lt h.blk⟩
 ·exact⟨h.hk,h.kn.lt⟩
 ·exact⟨h.hg,h.gi.lt⟩
def Sc.err (a:Sc) (e:Int):Ending:=faultP (a.n,e)
def AskR (a:Sc) (b:Bool) (e:Ending):Prop:=e=if b then .returned (.tuple #[]) else .panicked [{v:=faultV a.n 3,recovered:=false}]
theorem AskR.t {a:Sc} {e:Ending} (h:AskR a true e):e= .returned (.tuple #[]):=h
theorem AskR.f {a:Sc} {e:Ending} (h:AskR a false e):e= .panicked [{v:=faultV a.n 3,recovered:=false}]:=h
theorem askR_t {a:Sc} {b:Bool} (h:b=true):AskR a b (.returned (.tuple #[])):=by subst h;rfl
theorem askR_f {a:Sc} {b:Bool} (h:b=false):AskR a b (.panicked [{v:=faultV a.n 3,recovered:=false}]):=by subst h;rfl
theorem scbad_any (base b:Nat) (PV:Value) (w:World) (a:Sc) (bk bg:Nat) (er:Int) (h:w.cell? ⟨b,1,none⟩=some (.int .i64 a.n)):
  Calls Tryz.prog 81 #[.pointer (some ⟨b,0,none⟩),.int .i64 er] w fun e w'=>e=a.err er∧w=w':=by
 go_enter Tryz.func81,Tryz.ntmps81;go_wp2_with fail;exact⟨rfl,rfl,rfl⟩
theorem scask_any (base b:Nat) (PV:Value) (w:World) (a:Sc) (bk bg:Nat) (nm:ByteArray) (h:ScAt base b PV w a bk bg):
  Calls Tryz.prog 117 #[.pointer (some ⟨b,0,none⟩),.string nm] w fun e w'=>AskR a (inM a.kn nm) e∧Fr Non w w':=by
 have b1:=(Zc h.blk).1 1 _ rfl;have b2:=(Zc h.blk).1 2 _ rfl;have hl:=(h.kn.look und78 undStr zeroU nm).1;rw[mhas_uset,mget_uset] at hl;unfold unitV at hl;have H:=Zh h;clear h;generalize hin:inM a.kn nm=q at*;clear hin;cases q with
 |true=>
  go_enter Tryz.func117,Tryz.ntmps117;go_wp2_with fail
  go_end0
  exact⟨rfl,(Zf w).alloc _⟩
 |false=>
  go_enter Tryz.func117,Tryz.ntmps117;go_wp2_with fail;refine(scbad_any base b PV _ a bk bg 3 ?_).mono ?_
  ·simpa using((Zf w).alloc _).cell' b1 (non _)
  rintro e w' ⟨rfl,rfl⟩;unfold Sc.err faultP;go_wp2_with fail;exact⟨rfl,rfl,(Zf w).alloc _⟩
theorem asks_mk (k:ByteArray→Bool) (e:Ex):Ex.asks k e=((emp e.name||k e.name)&&Ex.askss k e.kids):=by cases e;rfl
theorem askss_false (k:ByteArray→Bool) (l:List Ex) (j:Nat) (hj:j<l.length) (h:Ex.asks k l[j]=false):Ex.askss k l=false:=by
 rw[askss_all];exact all_false_of j hj h
theorem askss_true (k:ByteArray→Bool) (l:List Ex) (h:∀j (hj:j<l.length),Ex.asks k l[j]=true):Ex.askss k l=true:=by
 rw[askss_all];exact all_true_of h
theorem scexprs_any (N:Nat):∀(l:List Ex) (ok:Nat→Prop) (A:Option Addr) (c base b:Nat) (PV:Value) (w:World) (a:Sc) (bk bg:Nat),Ex.sizes l<N→RdRows ok w 5 A 0 (Ex.ds l)→l.length*64≤reach→ScAt base b PV w a bk bg→
  Calls Tryz.prog 84 #[.pointer (some ⟨b,0,none⟩),.slice A l.length c] w fun e w'=>AskR a (Ex.askss (inM a.kn) l) e∧Fr Non w w':=by
 induction N with
 |zero=>intro l ok A c base b PV w a bk bg hN;omega
 |succ N ih=>
  intro l ok A c base b PV w a bk bg hN hr hc h;have hlen:l.length≤140737488355328:=by unfold reach at hc;omega
  have IH:=Zh ih;clear ih;have HR:=Zh hr;clear hr;have H:=Zh h;clear h;go_enter Tryz.func84,Tryz.ntmps84;go_wp2_with fail
  go_loopw [8] (fun i wr=>∃k:Nat,i= .int .i64 k∧k≤l.length∧Fr Non w wr∧∀j,j<k→∀hj:j<l.length,Ex.asks (inM a.kn) l[j]=true) (fun i _=>l.length-(intOf i).toNat)
  case atStart=>exact⟨0,rfl,by omega,Zf w,fun j hj=>by omega⟩
  case round=>
   obtain⟨k,rfl,hk,hfr,hno⟩:=hrel;have HN:=Zh hno;clear hno;have hrr:=HR.out.fr hfr (fun _ _=>non _) (fun _ h=>h);have HS:=Zh (H.out.stay hfr);have HF:=Zh hfr;clear hfr;by_cases hlt:k<l.length
   ·obtain⟨g,o,A',c',rfl,hd,e0,e1,e2,e3,e4,p1,q1,r1⟩:=at_ex hrr k hlt;have hsz:=size_le l k hlt;have HR1:=Zh r1;clear r1 hrr;generalize hx:l[k]=x at*;have HX:=Zh hx;clear hx;have key:∀w1,Fr Non wr w1→Calls Tryz.prog 84 #[.pointer (some ⟨b,0,none⟩),.slice A' x.kids.length c'] w1 fun e w'=>AskR a (Ex.askss (inM a.kn) x.kids) e∧Fr Non w1 w':=by
     intro w1 hf1;refine IH.out x.kids ok A' c' base b PV w1 a bk bg ?_ (HR1.out.fr hf1 (fun _ _=>non _) (fun _ h=>h)) q1 (HS.out.stay hf1);have:x.size=1+Ex.sizes x.kids:=by cases x;rfl
     omega
    have KEY:=Zh key;clear key;have hfail:∀q,Ex.asks (inM a.kn) x=q→q=false→Ex.askss (inM a.kn) l=false:=by
     rintro q h rfl;exact askss_false _ l k hlt (by rw[HX.out];exact h)
    have HFAIL:=Zh hfail;clear hfail;have HAX:=Zh (asks_mk (inM a.kn) x);cases he:emp x.name with
    |true=>
     have he':=he;rw[←toemp] at he';have HE:=Zh he;clear he;go_wp2_with fail;refine(KEY.out _ ((Zf wr).alloc _)).mono ?_;rintro e w2 ⟨he1,hf2⟩;cases hk2:Ex.askss (inM a.kn) x.kids with
     |true=>
      rw[hk2] at he1;obtain rfl:=he1.t;clear he1;have HK2:=Zh hk2;clear hk2;go_wp2_with fail;go_roundw
      case rel=>exact⟨k+1,by go_num,by omega,HF.out.trans (box_fr hf2),till HN.out fun _=>by rw[HX.out,HAX.out,HE.out,HK2.out];rfl⟩
      case measure=>simp[intOf];omega
     |false=>
      have hff:=HFAIL.out _ HAX.out (by rw[HE.out,hk2];rfl);rw[hk2] at he1;obtain rfl:=he1.f;clear he1;have HK2:=Zh hff;clear hff hk2;go_wp2_with fail;exact⟨rfl,askR_f HK2.out,HF.out.trans (box_fr hf2)⟩
    |false=>
     have he':=he;rw[←toemp] at he';have he2:(!x.name.toList.isEmpty)=true:=by rw[he'];rfl
     have HE:=Zh he;clear he;go_wp2_with fail;refine(scask_any base b PV _ a bk bg x.name (HS.out.stay ((Zf wr).alloc _))).mono ?_;rintro e w2 ⟨he1,hf2⟩;cases hk1:inM a.kn x.name with
     |false=>
      have hff:=HFAIL.out _ HAX.out (by rw[HE.out,hk1];rfl);rw[hk1] at he1;obtain rfl:=he1.f;clear he1;have HK2:=Zh hff;clear hff hk1;go_wp2_with fail;exact⟨rfl,askR_f HK2.out,HF.out.trans (box_fr hf2)⟩
     |true=>
      rw[hk1] at he1;obtain rfl:=he1.t;clear he1;have HK1:=Zh hk1;clear hk1;have c4:w2.cell? ⟨wr.heap.size,4,none⟩=some (.slice A' x.kids.length c'):=box_cells hf2 (non _) 4 _ rfl;go_wp2_with fail;refine(KEY.out _ (box_fr hf2)).mono ?_;rintro e w3 ⟨he1,hf3⟩;cases hk2:Ex.askss (inM a.kn) x.kids with
      |true=>
       rw[hk2] at he1;obtain rfl:=he1.t;clear he1;have HK2:=Zh hk2;clear hk2;go_wp2_with fail;go_roundw
       case rel=>exact⟨k+1,by go_num,by omega,HF.out.trans ((box_fr hf2).trans hf3),till HN.out fun _=>by rw[HX.out,HAX.out,HE.out,HK2.out,HK1.out];rfl⟩
       case measure=>simp[intOf];omega
      |false=>
       have hff:=HFAIL.out _ HAX.out (by rw[HE.out,hk2,HK1.out];rfl);rw[hk2] at he1;obtain rfl:=he1.f;clear he1;have HK2:=Zh hff;clear hff hk2;go_wp2_with fail;exact⟨rfl,askR_f HK2.out,HF.out.trans ((box_fr hf2).trans hf3)⟩
   ·go_wp2_with fail
    go_end0
    exact⟨askR_t (askss_true _ l fun j hj=>HN.out j (by omega) hj),HF.out⟩
end Go.Proofs.YtpkpgmnbheenbaaGreatDoor
