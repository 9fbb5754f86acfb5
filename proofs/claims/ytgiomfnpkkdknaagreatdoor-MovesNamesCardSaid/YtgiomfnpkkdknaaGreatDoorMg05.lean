/- Contracts and laws, Mg05 -/
import Derived.Test.YtgiomfnpkkdknaaGreatDoorMg01
import Derived.Test.YtgiomfnpkkdknaaGreatDoorMg02
import Derived.Test.YtgiomfnpkkdknaaGreatDoorMg03
import Derived.Test.YtgiomfnpkkdknaaGreatDoorMg04
import Derived.Deep.RegionWith
import Derived.Outline
import Derived.IntWalk
import Derived.Deep.DeepCutAuto
import Derived.Recover
import Derived.Defers
import Derived.WalkKit
import Derived.LaidEql
import Derived.LaidHandle
import Derived.Stop.Asserts
import Derived.RowKitTokens
import Derived.ChangeVars
import Derived.JoinedOf
import Derived.RowKit
import Derived.LaidLaws
import Derived.Stop.Joined
import Derived.Carry
import Derived.Handed
import Derived.Deep.CutBlock
namespace Go.Proofs.YtgiomfnpkkdknaaGreatDoor
open Go.RowKit
set_option linter.unusedVariables false
set_option linter.unusedSimpArgs false
set_option maxHeartbeats 8000000
set_option maxRecDepth 100000
def LookN (b:Bool) (n:Int) (e:Ending):Prop:=e=if b then .returned (.int .i64 n) else .panicked [{v:=.iface 138 (.agg #[.nilIface]),recovered:=false}]
theorem LookN.t {n:Int} {e:Ending} (h:LookN true n e):e= .returned (.int .i64 n):=h
theorem LookN.f {n:Int} {e:Ending} (h:LookN false n e):e= .panicked [{v:=.iface 138 (.agg #[.nilIface]),recovered:=false}]:=h
theorem lookN_t {b:Bool} {m n:Int} (h:b=true) (hn:m=n):LookN b n (.returned (.int .i64 m)):=by subst h;subst hn;rfl
theorem lookN_f {b:Bool} {n:Int} (h:b=false):LookN b n (.panicked [{v:=.iface 138 (.agg #[.nilIface]),recovered:=false}]):=by subst h;rfl
def inner (l:List St):Nat:=(l.map fun s=>St.sizes s.body+St.sizes s.els).sum
theorem inner_snoc (l:List St) (x:St):inner (l++[x])=inner l+(St.sizes x.body+St.sizes x.els):=by simp[inner]
theorem inner_all (l:List St):l.length+inner l=St.sizes l:=by
 induction l with
 |nil=>rfl
 |cons x l ih=>simp only[inner,List.map_cons,List.sum_cons,List.length_cons,St.sizes,St.size_eq] at ih ⊢;omega
theorem inner_take (l:List St) (j:Nat) (h:j<l.length):inner (l.take (j+1))=inner (l.take j)+(St.sizes l[j].body+St.sizes l[j].els):=by
 rw[take_snoc l j h,inner_snoc]
theorem inner_le (l:List St) (j:Nat):inner (l.take j)≤inner l:=by
 induction l generalizing j with
 |nil=>simp[inner]
 |cons x l ih=>
  cases j with
  |zero=>simp[inner]
  |succ j=>have:=ih j;simp only[inner,List.take_succ_cons,List.map_cons,List.sum_cons] at this ⊢;omega
theorem dead_end {A:Prop} (h:A) {w:World} (_:wpAny Tryz.prog .any #[] (fun _ _ _=>True) 0 #[] {tmps:=#[],defers:=[]} w):A:=h
theorem pstmts_any (N:Nat):∀(l:List St) (deep:Nat) (ok:Nat→Prop) (A:Option Addr) (c:Nat) (w:World),St.sizes l<N→St.sizes l≤1099511627776→deep≤41→RdRows ok w 9 A 0 (St.ds l)→l.length*144≤reach→
  Calls Tryz.prog 104 #[.slice A l.length c,.int .i64 (deep:Int)] w fun e w'=>LookN (St.oks l deep) (St.sizes l) e∧Fr Non w w':=by
 induction N with
 |zero=>intro l deep ok A c w hN;omega
 |succ N ih=>
 intro l deep ok A c w hN hN2 hd hr hc;have hlen:l.length≤140737488355328:=by unfold reach at hc;omega
 have IH:=Zh ih;clear ih;have HR:=Zh hr;clear hr;have HC:=Zh hc;clear hc;have HNN:=Zh hN;clear hN;have HIA:=Zh (inner_all l);go_enter Tryz.func104,Tryz.ntmps104;go_wp2_with fail
 go_loopw [5,12] (fun t i wr=>∃j:Nat,i= .int .i64 j∧t= .int .i64 ((l.length+inner (l.take j):Nat):Int)∧j≤l.length∧Fr Non w wr∧∀q,q<j→∀hq:q<l.length,St.ok l[q] deep=true) (fun _ i _=>l.length-(intOf i).toNat)
 case atStart=>exact⟨0,rfl,by simp[inner],by omega,Zf _,fun j hj=>by omega⟩
 case round=>
  obtain⟨j,rfl,rfl,hj,hfr,hno⟩:=hrel;have HN:=Zh hno;clear hno;by_cases hlt:j<l.length
  ·obtain⟨b,o1,A1,c1,A2,c2,A3,c3,A4,c4,rfl,hb,e0,e1,e2,e3,e4,e5,e6,e7,e8,r1,r2,r3,r4⟩:=at_st (HR.out.fr hfr (fun _ _=>non _) (fun _ h=>h)) j hlt;have HSR:=Zh (⟨r1,r2,r3,r4⟩:StRd ok wr l[j] A1 A2 A3 A4 c1 c2 c3 c4);clear r1 r2 r3 r4;have HQ:=Zh (ssize_le l j hlt);have HT:=Zh (inner_take l j hlt);have HT2:=Zh (inner_le l (j+1));have HF:=Zh hfr;clear hfr;generalize hx:l[j]=x at*;have HX:=Zh hx;clear hx;have HE:=Zh (fun(q:Bool) (h:St.ok x deep=q) (hq:q=false)=>oks_false l deep j hlt (show St.ok l[j] deep=false by rw[HX.out,h,hq]));have HEQ:=Zh (St.ok_eq x deep);by_cases hdd:deep≤40
   ·have hdb:decide ((deep:Int)≤40)=true:=by simp;omega
    have hf0:=(Zf wr).alloc (.cells #[vu8 x.kind,.string x.name,.string x.frm,.bool x.sec,.bool x.mt,.slice A1 x.ex.length c1,.slice A2 x.args.length c2,.slice A3 x.body.length c3,.slice A4 x.els.length c4] 47);have HFO:=Zh (pform_any x ok A1 A2 A3 A4 c1 c2 c3 c4 _ (HSR.out.fr hf0 fun _ _=>non _));clear hf0;go_wp2_with fail;refine(unless_t _).mono ?_;rintro e w1 ⟨rfl,rfl⟩;go_wp2_with fail;refine HFO.out.mono ?_;rintro e w2 ⟨he,hf2⟩;have hbz:=Zb (blk_new wr _ _) hf2 (non _);have y7:=(Zc hbz).1 7 _ rfl;have y8:=(Zc hbz).1 8 _ rfl;have HS2:=Zh (HSR.out.fr (box_fr hf2) fun _ _=>non _);have HF2:=Zh (HF.out.trans (box_fr hf2));clear hf2 hbz;clear e0 e1 e2 e3 e4 e5 e6 e7 e8;cases hm:formM x with
    |false=>
     rw[hm] at he;obtain rfl:=he.f;clear he;have HM:=Zh hm;clear hm;go_wp2_with fail;exact⟨rfl,lookN_f (HE.out _ HEQ.out (by rw[HM.out];simp)),HF2.out⟩
    |true=>
     rw[hm] at he;obtain rfl:=he.t;clear he;have HM:=Zh hm;clear hm;have hbod:=fun(w1:World) (hf1:Fr Non w2 w1)=>IH.out x.body (deep+1) ok A3 c3 w1 (by have:=HNN.out;have:=HQ.out;rw[St.size_eq] at this;omega) (by have:=HQ.out;rw[St.size_eq] at this;omega) (by omega) (HS2.out.body.2.2.fr hf1 (fun _ _=>non _) (fun _ h=>h)) HS2.out.body.2.1;have hels:=fun(w1:World) (hf1:Fr Non w2 w1)=>IH.out x.els (deep+1) ok A4 c4 w1 (by have:=HNN.out;have:=HQ.out;rw[St.size_eq] at this;omega) (by have:=HQ.out;rw[St.size_eq] at this;omega) (by omega) (HS2.out.els.2.2.fr hf1 (fun _ _=>non _) (fun _ h=>h)) HS2.out.els.2.1;have HBOD:=Zh hbod;clear hbod;have HELS:=Zh hels;clear hels;have ec:((deep+1:Nat):Int)=(deep:Int)+1:=by omega
     rw[ec] at HBOD HELS;have hs1:l.length+inner (l.take j)+(St.sizes x.body+St.sizes x.els)≤1099511627776:=by have:=HT.out;have:=HT2.out;have:=HIA.out;omega
     have hwr:IntKind.i64.wrap ((deep:Int)+1)=(deep:Int)+1:=IntWalk.i64_in _ (by omega);cases hob:St.oks x.body (deep+1) with
     |false=>
      rw[hob] at HBOD;have HB:=Zh hob;clear hob ec;have HD:=Zh (lookN_f (n:=St.sizes l) (HE.out _ HEQ.out (by rw[HM.out,HB.out];simp)));cases hoe:St.oks x.els (deep+1) with
      |false=>
       rw[hoe] at HELS;clear hoe;go_wp2_with fail
       go_region_with (first|(go_at_call_of 104 A3;refine(HBOD.out w2.drew (Zf w2).drew).mono ?_;rintro e w3 ⟨he,hf3⟩;obtain rfl:=he.f;go_wp2_with fail;refine dead_end (w:=w2) ?_ ?_;exact⟨rfl,HD.out,HF2.out.trans ((Zf w2).drew.trans hf3)⟩)|(go_at_call_of 104 A4;refine(HELS.out w2.drew (Zf w2).drew).mono ?_;rintro e w3 ⟨he,hf3⟩;obtain rfl:=he.f;go_wp2_with fail;refine dead_end (w:=w2) ?_ ?_;exact⟨rfl,HD.out,HF2.out.trans ((Zf w2).drew.trans hf3)⟩))
       all_goals trivial
      |true=>
       rw[hoe] at HELS;clear hoe;go_wp2_with fail
       go_region_with (first|(go_at_call_of 104 A3;refine(HBOD.out w4 ((Zf w2).drew.trans hf4)).mono ?_;rintro e w3 ⟨he,hf3⟩;obtain rfl:=he.f;go_wp2_with fail;refine dead_end (w:=w2) ?_ ?_;exact⟨rfl,HD.out,HF2.out.trans ((Zf w2).drew.trans (hf4.trans hf3))⟩)|(go_at_call_of 104 A3;refine(HBOD.out w2.drew (Zf w2).drew).mono ?_;rintro e w3 ⟨he,hf3⟩;obtain rfl:=he.f;go_wp2_with fail;refine dead_end (w:=w2) ?_ ?_;exact⟨rfl,HD.out,HF2.out.trans ((Zf w2).drew.trans hf3)⟩)|(go_at_call_of 104 A4;refine(HELS.out w2.drew (Zf w2).drew).mono ?_;rintro e w4 ⟨he,hf4⟩;obtain rfl:=he.t;have z7:=((Zf w2).drew.trans hf4).cell' y7 (non _);have z8:=((Zf w2).drew.trans hf4).cell' y8 (non _)))
       all_goals trivial
     |true=>
      cases hoe:St.oks x.els (deep+1) with
      |false=>
       rw[hob] at HBOD;rw[hoe] at HELS;have HD:=Zh (lookN_f (n:=St.sizes l) (HE.out _ HEQ.out (by rw[HM.out,hob,hoe];simp)));clear hob hoe;go_wp2_with fail
       go_region_with (first|(go_at_call_of 104 A4;refine(HELS.out w4 ((Zf w2).drew.trans hf4)).mono ?_;rintro e w3 ⟨he,hf3⟩;obtain rfl:=he.f;go_wp2_with fail;refine dead_end (w:=w2) ?_ ?_;exact⟨rfl,HD.out,HF2.out.trans ((Zf w2).drew.trans (hf4.trans hf3))⟩)|(go_at_call_of 104 A4;refine(HELS.out w2.drew (Zf w2).drew).mono ?_;rintro e w3 ⟨he,hf3⟩;obtain rfl:=he.f;go_wp2_with fail;refine dead_end (w:=w2) ?_ ?_;exact⟨rfl,HD.out,HF2.out.trans ((Zf w2).drew.trans hf3)⟩)|(go_at_call_of 104 A3;refine(HBOD.out w2.drew (Zf w2).drew).mono ?_;rintro e w4 ⟨he,hf4⟩;obtain rfl:=he.t;have z7:=((Zf w2).drew.trans hf4).cell' y7 (non _);have z8:=((Zf w2).drew.trans hf4).cell' y8 (non _)))
       all_goals trivial
      |true=>
       rw[hob] at HBOD;rw[hoe] at HELS;have HB:=Zh hob;clear hob;have HEL:=Zh hoe;clear hoe ec;have x7:=ext_cell y7;have x8:=ext_cell y8;clear y7 y8;go_wp2_with fail;refine wp_region_ext (by kernel_rfl) (by kernel_rfl) ?_
       repeat (go_big_quiet_step (fail))
       go_big_quiet_want;go_big_quiet_op;apply Exists.intro;refine⟨fun y=>?_,?_⟩
       ·exact calls_ext (v:=.int .i64 (St.sizes x.body)) ((HBOD.out _ (ext_fr _ _)).mono fun e w' h=>⟨h.1.t,h.2⟩)
       go_big_quiet_on
       repeat (go_big_quiet_step (fail))
       go_big_quiet_want;go_big_quiet_op;apply Exists.intro;refine⟨fun y=>?_,?_⟩
       ·exact calls_ext (v:=.int .i64 (St.sizes x.els)) ((HELS.out _ (ext_fr _ _)).mono fun e w' h=>⟨h.1.t,h.2⟩)
       go_big_quiet_on
       repeat (go_big_quiet_step (fail))
       refine wpQuiet_nil ?_;intro w3 hf3;clear x7 x8;have HF3:=Zh (HF2.out.trans hf3);clear hf3;go_wp2_with fail;go_roundw
       case rel=>exact⟨j+1,by go_num,by have:=HT.out;have:=hs1;go_num,by omega,HF3.out,till HN.out fun _=>by rw[HX.out,HEQ.out,HM.out,HB.out,HEL.out,decide_eq_true hdd];rfl⟩
       case measure=>simp[intOf];omega
   ·have hdb:decide ((deep:Int)≤40)=false:=by simp;omega
    go_wp2_with fail;refine(unless_f _).mono ?_;rintro e w1 ⟨rfl,rfl⟩;go_wp2_with fail;exact⟨rfl,lookN_f (HE.out _ HEQ.out (by rw[decide_eq_false hdd];simp)),HF.out.trans ((Zf wr).alloc _)⟩
  ·have hje:j=l.length:=by omega
   subst hje;have hok:St.oks l deep=true:=oks_true l deep fun q hq=>HN.out q hq hq;have HO:=Zh hok;clear hok;rw[List.take_length];have hs1:l.length+inner l=St.sizes l:=HIA.out;go_wp2_with fail;go_ret;exact⟨lookN_t HO.out (by rw[←hs1]),hfr⟩
theorem pfunction_any (f:Fu) (ok:Nat→Prop) (A1 A2 A3:Option Addr) (c1 c2 c3:Nat) (w:World) (hs:St.sizes f.body≤1099511627776) (r1:RdRows ok w 4 A1 0 (f.params.map Pa.d)) (q1:f.params.length*24≤reach) (r2:RdRows ok w 9 A2 0 (St.ds f.body)) (q2:f.body.length*144≤reach) (r3:RdRows ok w 5 A3 0 (Ex.ds f.ret)) (q3:f.ret.length*64≤reach):
  Calls Tryz.prog 65 #[.agg #[.string f.name,.slice A1 f.params.length c1,.slice A2 f.body.length c2,.bool f.sec,.slice A3 f.ret.length c3]] w fun e w'=>LookN (okF f) (St.sizes f.body) e∧Fr Non w w':=by
 have hl1:f.params.length≤140737488355328:=by unfold reach at q1;omega
 have hl3:f.ret.length≤140737488355328:=by unfold reach at q3;omega
 have R1:=Zh r1;clear r1;have R2:=Zh r2;clear r2;have R3:=Zh r3;clear r3;have Q3:=Zh q3;clear q1 q3;have Q2:=Zh q2;clear q2;have HS:=Zh hs;clear hs;obtain⟨s,hsec⟩:∃x,f.sec=x:=⟨_,rfl⟩;rw[hsec];have HSEC:=Zh hsec;clear hsec;go_enter Tryz.func65,Tryz.ntmps65;go_upto_region 1 with fail;obtain⟨W1,HW1⟩:∃W1,W1=w.alloc (.cells #[.string f.name,.slice A1 f.params.length c1,.slice A2 f.body.length c2,.bool s,.slice A3 f.ret.length c3] 36):=⟨_,rfl⟩;rw[←HW1];have hbb:W1.heap[w.heap.size]? =some (.cells #[.string f.name,.slice A1 f.params.length c1,.slice A2 f.body.length c2,.bool s,.slice A3 f.ret.length c3] 36 (0,0)):=by rw[HW1];exact blk_new _ _ _
 have hfw:Fr Non w W1:=by rw[HW1];exact(Zf w).alloc _
 clear HW1;have HFW:=Zh hfw;have g0:=(Zc hbb).1 0 _ rfl;have g1:=(Zc hbb).1 1 _ rfl;have g2:=(Zc hbb).1 2 _ rfl;have g3:=(Zc hbb).1 3 _ rfl;have g4:=(Zc hbb).1 4 _ rfl;have HBB:=Zh hbb;clear hbb;have HP1:=Zh (R1.out.fr hfw (fun _ _=>non _) (fun _ h=>h));have HP2:=Zh (R2.out.fr hfw (fun _ _=>non _) (fun _ h=>h));have HP3:=Zh (R3.out.fr hfw (fun _ _=>non _) (fun _ h=>h));clear hfw;obtain⟨m,hm⟩:∃x,namedM f.name=x:=⟨_,rfl⟩;obtain⟨d8,hd8⟩:∃x,decide ((f.params.length:Int)≤8)=x:=⟨_,rfl⟩;obtain⟨d1,hd1⟩:∃x,decide ((f.ret.length:Int)≤1)=x:=⟨_,rfl⟩;obtain⟨b1,hb1⟩:∃x,((f.ret.length:Int)==1)=x:=⟨_,rfl⟩;have HHD:=Zh (show fheadM f=(m&&d8&&d1&&(b1|| !s)&&f.ret.all exM) by
  rw[←hm,←hd8,←hd1,←hb1,←HSEC.out,fheadM];have e1:decide (f.params.length≤8)=decide ((f.params.length:Int)≤8):=by rw[Bool.eq_iff_iff];simp;omega
  have e2:decide (f.ret.length≤1)=decide ((f.ret.length:Int)≤1):=by rw[Bool.eq_iff_iff];simp;omega
  rw[e1,e2];by_cases h1:(f.ret.length:Int)≤1
  ·have e3:(f.ret.length==0)= !((f.ret.length:Int)==1):=by
    by_cases hz:f.ret.length=0
    ·rw[hz];rfl
    ·have:f.ret.length=1:=by omega
     rw[this];rfl
   rw[e3];generalize namedM f.name=a1;generalize decide ((f.params.length:Int)≤8)=a2;generalize decide ((f.ret.length:Int)≤1)=a3;generalize ((f.ret.length:Int)==1)=a4;generalize f.ret.all exM=a5;generalize f.sec=a6;cases a1<;>cases a2<;>cases a3<;>cases a4<;>cases a5<;>cases a6<;>rfl
  ·rw[decide_eq_false h1];simp)
 have HOK:=Zh (show okF f=(St.oks f.body 1&&(fheadM f&&f.params.all parM)) from rfl)
 go_cut [30] (fun v30 wx=>wx=W1∧(m&&d8&&d1&&(b1|| !s))=true)
 case first=>
  cases m<;>cases d8<;>cases d1<;>cases b1<;>cases s;all_goals
   go_wp2_with (go_at_call 102;refine(pnamed_any _ _).mono ?_;rintro e w1 ⟨rfl,rfl⟩;rw[hm])
  all_goals
   refine(unless_any _ _).mono ?_;rintro e w1 ⟨he,rfl⟩;rcases he.or with⟨hb,rfl⟩|⟨hb,rfl⟩
   ·first
     |exact Bool.noConfusion hb
     |(go_wp2_with fail;go_meet;exact⟨rfl,rfl⟩)
   ·first
     |exact Bool.noConfusion hb
     |(go_wp2_with fail;refine⟨rfl,lookN_f ?_,HFW.out⟩;rw[HOK.out,HHD.out];simp)
 case rest=>
  obtain⟨rfl,hH⟩:=hcut;have HH:=Zh hH;clear hH hm hd8 hd1 hb1;have HPX:=Zh (pexprs_any f.ret ok A3 c3 wc HP3.out Q3.out);go_wp2_with fail;refine HPX.out.mono ?_;rintro e w2 ⟨he,hf2⟩;cases ha:f.ret.all exM with
  |false=>
   rw[ha] at he;obtain rfl:=he.f;clear he;have HA:=Zh ha;clear ha;go_wp2_with fail;exact⟨rfl,lookN_f (by rw[HOK.out,HHD.out,HA.out];simp),HFW.out.trans hf2⟩
  |true=>
   rw[ha] at he;obtain rfl:=he.t;clear he;have HA:=Zh ha;clear ha;have HFT:=Zh (show fheadM f=true by rw[HHD.out,HH.out,HA.out];rfl);have h2:=Zb HBB.out hf2 (non _);have k1:=(Zc h2).1 1 _ rfl;have k2:=(Zc h2).1 2 _ rfl;have HB2:=Zh h2;clear h2;clear g0 g1 g2 g3 g4;have HF2:=Zh (HFW.out.trans hf2);clear hf2;go_wp2_with fail
   go_loopw [38] (fun i wr=>∃j:Nat,i= .int .i64 j∧j≤f.params.length∧Fr Non w2 wr∧∀q,q<j→∀hq:q<f.params.length,parM f.params[q]=true) (fun i _=>f.params.length-(intOf i).toNat)
   case atStart=>exact⟨0,rfl,by omega,Zf _,fun j hj=>by omega⟩
   case round=>
    obtain⟨j,rfl,hj,hfr,hno⟩:=hrel;have HN:=Zh hno;clear hno;by_cases hlt:j<f.params.length
    ·obtain⟨b,o1,rfl,hb,e0,e1,e2,e3⟩:=at_pa (R1.out.fr (HF2.out.trans hfr) (fun _ _=>non _) (fun _ h=>h)) j hlt;have HF:=Zh hfr;clear hfr;have HPM:=Zh (show parM f.params[j]=(namedM f.params[j].name&&(!f.params[j].mt||f.params[j].buf)) from rfl);have HAF:=Zh (fun h:parM f.params[j]=false=>all_false_of (p:=parM) j hlt h);generalize hx:f.params[j]=x at*;have HX:=Zh hx;clear hx;obtain⟨nm,bf,sc,mt⟩:=x;simp only at e0 e1 e2 e3 HPM;obtain⟨m2,hm2⟩:∃x,namedM nm=x:=⟨_,rfl⟩;rw[hm2] at HPM;cases m2<;>cases mt<;>cases bf;all_goals
      go_wp2_with (go_at_call 102;refine(pnamed_any _ _).mono ?_;rintro e w1 ⟨rfl,rfl⟩;rw[hm2]);refine(unless_any _ _).mono ?_;rintro e w1 ⟨he,rfl⟩;rcases he.or with⟨hb,rfl⟩|⟨hb,rfl⟩
      ·first
        |exact Bool.noConfusion hb
        |(go_wp2_with fail;go_roundw;(case rel=>exact⟨j+1,by go_num,by omega,HF.out.trans ((Zf _).alloc _),till HN.out fun _=>by rw[HX.out];exact HPM.out⟩);(case measure=>simp[intOf];omega))
      ·first
        |exact Bool.noConfusion hb
        |(go_wp2_with fail;refine⟨rfl,lookN_f ?_,HF2.out.trans (HF.out.trans ((Zf _).alloc _))⟩;rw[HOK.out,HAF.out HPM.out];simp)
    ·have hje:j=f.params.length:=by omega
     subst hje;have HP:=Zh (all_true_of (p:=parM) (l:=f.params) fun q hq=>HN.out q hq hq);have y2:=hfr.cell' k2 (non _);have HST:=Zh (pstmts_any (St.sizes f.body+1) f.body 1 ok A2 c2 wr (by omega) HS.out (by omega) (R2.out.fr (HF2.out.trans hfr) (fun _ _=>non _) (fun _ h=>h)) Q2.out);go_wp2_with fail;refine HST.out.mono ?_;rintro e w3 ⟨he,hf3⟩;cases hob:St.oks f.body 1 with
     |false=>
      rw[hob] at he;obtain rfl:=he.f;clear he;have HB:=Zh hob;clear hob;go_wp2_with fail;exact⟨rfl,lookN_f (by rw[HOK.out,HB.out];rfl),HF2.out.trans (hfr.trans hf3)⟩
     |true=>
      rw[hob] at he;obtain rfl:=he.t;clear he;have HB:=Zh hob;clear hob;go_wp2_with fail;go_ret;exact⟨lookN_t (by rw[HOK.out,HB.out,HFT.out,HP.out];rfl) rfl,HF2.out.trans (hfr.trans hf3)⟩
theorem lookR_t' {b:Bool} (h:b=true):LookR b (.returned (.tuple #[])):=by subst h;rfl
theorem pcheck1_any (l:List Fu) (ok:Nat→Prop) (A:Option Addr) (c bb:Nat) (w:World) (hbb:w.heap[bb]? =some (.cells #[.slice A l.length c] 24 (0,0))) (hr:RdRows ok w 5 A 0 (l.map Fu.d)) (hc:l.length*96≤reach) (hs:Fu.sizes l≤1099511627776):
  Calls Tryz.prog 64 #[.pointer (some ⟨bb,0,none⟩)] w fun e w'=>LookR (mayM l) e∧Fr Non w w':=by
 have hlen:l.length≤140737488355328:=by unfold reach at hc;omega
 have HR:=Zh hr;clear hr;have g0:=(Zc hbb).1 0 _ rfl;have HBB:=Zh hbb;clear hbb;go_enter Tryz.func64,Tryz.ntmps64;go_wp2_with fail
 go_loopw [1,7] (fun t i wr=>∃j:Nat,i= .int .i64 j∧t= .int .i64 (Fu.sizes (l.take j))∧j≤l.length∧Fr Non w wr∧∀q,q<j→∀hq:q<l.length,okF l[q]=true) (fun _ i _=>l.length-(intOf i).toNat)
 case atStart=>exact⟨0,rfl,by simp[Fu.sizes],by omega,Zf _,fun j hj=>by omega⟩
 case round=>
  obtain⟨j,rfl,rfl,hj,hfr,hno⟩:=hrel;have HN:=Zh hno;clear hno;by_cases hlt:j<l.length
  ·obtain⟨b,o1,A1,c1,A2,c2,A3,c3,rfl,hb,e0,e1,e2,e3,e4,⟨p1,q1,r1⟩,⟨p2,q2,r2⟩,⟨p3,q3,r3⟩⟩:=at_fu (HR.out.fr hfr (fun _ _=>non _) (fun _ h=>h)) j hlt;have HF:=Zh hfr;clear hfr;have hf0:=(Zf wr).alloc (.cells #[.string l[j].name,.slice A1 l[j].params.length c1,.slice A2 l[j].body.length c2,.bool l[j].sec,.slice A3 l[j].ret.length c3] 36);have HT:=Zh (fsizes_take l j hlt);have HT2:=Zh (fsizes_take_le l (j+1));have HFN:=Zh (pfunction_any l[j] ok A1 A2 A3 c1 c2 c3 _ (by have:=fsize_le l j hlt;omega) (r1.fr hf0 (fun _ _=>non _) (fun _ h=>h)) q1 (r2.fr hf0 (fun _ _=>non _) (fun _ h=>h)) q2 (r3.fr hf0 (fun _ _=>non _) (fun _ h=>h)) q3);clear hf0 r1 r2 r3;have HAF:=Zh (fun h:okF l[j]=false=>all_false_of (p:=okF) j hlt h);go_wp2_with fail;refine HFN.out.mono ?_;rintro e w2 ⟨he,hf2⟩;have HF2:=Zh (HF.out.trans (box_fr hf2));clear hf2;cases hk:okF l[j] with
   |false=>
    rw[hk] at he;obtain rfl:=he.f;clear he;have HK:=Zh hk;clear hk;go_wp2_with fail;exact⟨rfl,lookR_f (by rw[mayM,HAF.out HK.out];rfl),HF2.out⟩
   |true=>
    rw[hk] at he;obtain rfl:=he.t;clear he;have HK:=Zh hk;clear hk;have hs1:Fu.sizes (l.take j)+St.sizes l[j].body≤1099511627776:=by have:=HT.out;have:=HT2.out;omega
    go_wp2_with fail;go_roundw
    case rel=>exact⟨j+1,by go_num,by rw[HT.out];congr 1<;>omega,by omega,HF2.out,till HN.out fun _=>HK.out⟩
    case measure=>simp[intOf];omega
  ·have hje:j=l.length:=by omega
   subst hje;have HA:=Zh (all_true_of (p:=okF) (l:=l) fun q hq=>HN.out q hq hq);have k0:=hfr.cell' g0 (non _);have HF:=Zh hfr;clear hfr;rw[List.take_length];obtain⟨d16,hd16⟩:∃x,decide ((l.length:Int)≤16)=x:=⟨_,rfl⟩;obtain⟨d4,hd4⟩:∃x,decide ((Fu.sizes l:Int)≤400)=x:=⟨_,rfl⟩;have HM:=Zh (show mayM l=(d16&&d4) by
    rw[mayM,HA.out,←hd16,←hd4];have e1:decide (l.length≤16)=decide ((l.length:Int)≤16):=by rw[Bool.eq_iff_iff];simp;omega
    have e2:decide (Fu.sizes l≤400)=decide ((Fu.sizes l:Int)≤400):=by rw[Bool.eq_iff_iff];simp;omega
    rw[e1,e2];rfl)
   cases d16<;>cases d4;all_goals
    go_wp2_with fail;refine(unless_any _ _).mono ?_;rintro e w1 ⟨he,rfl⟩;rcases he.or with⟨hb,rfl⟩|⟨hb,rfl⟩
    ·first
      |exact Bool.noConfusion hb
      |(go_wp2_with fail;go_end0;exact⟨lookR_t' HM.out,HF.out⟩)
    ·first
      |exact Bool.noConfusion hb
      |(go_wp2_with fail;exact⟨rfl,lookR_f HM.out,HF.out⟩)
theorem guard_catch (b:Nat) (old:Value) (T:TypeId) (w:World) (hb:w.heap[b]? =some (.cells #[old] T (0,0))):
  CallsD Tryz.prog 101 #[.pointer (some ⟨b,0,none⟩)] (.panicking [{v:=.iface 138 (.agg #[.nilIface]),recovered:=false}]) w fun e u' w'=>
   e= .returned (.tuple #[])∧u'= .panicking [{v:=.iface 138 (.agg #[.nilIface]),recovered:=true}]∧w'.heap[b]? =some (.cells #[.iface 51 (.int .i64 2)] T (0,0))∧Fr (fun k=>k=b) w w':=by
 have hta:∀w:World,(Instr.typeAssert (.iface 138 (.agg #[.nilIface])) 20 138 true).run Tryz.prog w= .ok (.tuple #[.agg #[.nilIface],.bool true]) w:=fun w=>by kernel_rfl
 have hmi:∀w:World,(Instr.makeInterface 51 (.int .i64 2)).run Tryz.prog w= .ok (.iface 51 (.int .i64 2)) w:=fun w=>by kernel_rfl
 have hf1:=(Fr.refl (fun k=>k=b) w).alloc (.cells #[.nilIface] 138);have hb1:=Zb hb ((Zf w).alloc (.cells #[.nilIface] 138)) (non _);have hb2:=blk_set hb1 0 .nilIface;have hb3:=blk_set hb2 0 (.iface 51 (.int .i64 2));have hf3:=(hf1.setCell ⟨b,0,none⟩ .nilIface (.inl rfl)).setCell ⟨b,0,none⟩ (.iface 51 (.int .i64 2)) (.inl rfl);have c1:=(Zc hb1).1 0 _ rfl;have z1:=(Zc hb1).2 0;have c2:=(Zc hb2).1 0 _ rfl;have z2:=(Zc hb2).2 0;refine callsD_of_wpS Tryz.func101 rfl fun c₀ cs hu=>?_;apply wpS_seq;apply wpS_region;simp[wpOpsS,go_sem,recoverD,hu,Tryz.ntmps101,Exit.thenS];refine wpS_of_wp ?_;go_wp2_with fail;refine⟨rfl,_,rfl,_,by simp[results,Tryz.results101,go_sem],rfl,rfl,?_,?_⟩
 ·simpa using hb3
 ·exact hf3
theorem guard_idle (b:Nat) (w:World):
  CallsD Tryz.prog 101 #[.pointer (some ⟨b,0,none⟩)] .returning w fun e u' w'=>e= .returned (.tuple #[])∧u'= .returning∧w=w':=by
 refine callsD_of_wpS Tryz.func101 rfl fun c₀ cs hu=>?_;apply wpS_seq;apply wpS_region;simp[wpOpsS,go_sem,recoverD,hu,Tryz.ntmps101,Exit.thenS];refine wpS_of_wp ?_;go_wp2_with fail;refine⟨rfl,_,?_,_,by simp[results,Tryz.results101,go_sem],rfl,rfl,rfl⟩;rw[←hu]
theorem guard_any (l:List Fu) (ok:Nat→Prop) (A:Option Addr) (c bb:Nat) (w:World) (hbb:w.heap[bb]? =some (.cells #[.slice A l.length c] 24 (0,0))) (hr:RdRows ok w 5 A 0 (l.map Fu.d)) (hc:l.length*96≤reach) (hs:Fu.sizes l≤1099511627776):
  Calls Tryz.prog 63 #[.func (.func 64) #[] #[.pointer (some ⟨bb,0,none⟩)]] w fun e w'=>e= .returned (if mayM l then .nilIface else .iface 51 (.int .i64 2))∧Fr Non w w':=by
 have hmf:∀(fn:Fn) (first cap:Array Value) (w:World),(Instr.makeFunc fn first cap).run Tryz.prog w= .ok (.func fn first cap) w:=fun _ _ _ _=>rfl;have hf0:=(Zf w).alloc (.cells #[.nilIface] 30);have hb0:=Zb hbb hf0 (non _);have hbn:=blk_new w #[.nilIface] 30;have HC:=Zh (pcheck1_any l ok A c bb _ hb0 (hr.fr hf0 (fun _ _=>non _) (fun _ h=>h)) hc hs);obtain⟨r,hR⟩:∃r:Value,(if mayM l then .nilIface else .iface 51 (.int .i64 2))=r:=⟨_,rfl⟩;rw[hR];have HRR:=Zh hR;clear hR;go_enter_defers Tryz.func63,Tryz.ntmps63;go_wp2_with fail;refine HC.out.mono ?_;rintro e w2 ⟨he,hf2⟩;have hb2:=Zb hbn hf2 (non _);have hff:=box_fr hf2;have hNon:∀w3,Fr (fun k=>k=w.heap.size) w2 w3→Fr Non w w3:=fun w3 h3=>hff.then h3 fun k hk e=>by omega
 have c2:=(Zc hb2).1 0 _ rfl;have z2:=(Zc hb2).2 0;cases hm:mayM l with
 |true=>
  rw[hm] at he;obtain rfl:=he.t;clear he;have HMM:=Zh hm;clear hm;have hb3:=blk_set hb2 0 .nilIface;go_wp2_with fail;refine leaves_cons (f:=101) (args:=#[.pointer (some ⟨w.heap.size,0,none⟩)]) (by simp) (by simp[go_sem]) ?_;refine(guard_idle w.heap.size _).mono ?_;rintro e u' w'' ⟨rfl,rfl,rfl⟩;have c3:=(Zc hb3).1 0 _ rfl;have HR:=Zh (hNon _ ((Fr.refl _ w2).setCell ⟨w.heap.size,0,none⟩ .nilIface (.inl rfl)));simp[Leaves,settle,results,Tryz.results63,go_sem,c3];exact⟨by rw[←HRR.out,HMM.out];rfl,HR.out⟩
 |false=>
  rw[hm] at he;obtain rfl:=he.f;clear he;have HMM:=Zh hm;clear hm;go_wp2_with fail;refine leaves_cons (f:=101) (args:=#[.pointer (some ⟨w.heap.size,0,none⟩)]) (by simp) (by simp[go_sem]) ?_;refine(guard_catch w.heap.size _ _ _ hb2).mono ?_;rintro e u' w'' ⟨rfl,rfl,hb3,hf3⟩;have c3:=(Zc hb3).1 0 _ rfl;have HR:=Zh (hNon _ hf3);clear hf3;simp[Leaves,settle,results,Tryz.results63,go_sem,c3];exact⟨by rw[←HRR.out,HMM.out];rfl,HR.out⟩
theorem pcheck_any (l:List Fu) (ok:Nat→Prop) (A:Option Addr) (c:Nat) (w:World) (hr:RdRows ok w 5 A 0 (l.map Fu.d)) (hc:l.length*96≤reach) (hs:Fu.sizes l≤1099511627776):
  Calls Tryz.prog 45 #[.agg #[.slice A l.length c]] w fun e w'=>e= .returned (.int .i64 (if mayM l then 0 else 2))∧Fr Non w w':=by
 have hmf:∀(fn:Fn) (first cap:Array Value) (w:World),(Instr.makeFunc fn first cap).run Tryz.prog w= .ok (.func fn first cap) w:=fun _ _ _ _=>rfl;have hf0:=(Zf w).alloc (.cells #[.slice A l.length c] 24);have HC:=Zh (guard_any l ok A c w.heap.size _ (blk_new w #[.slice A l.length c] 24) (hr.fr hf0 (fun _ _=>non _) (fun _ h=>h)) hc hs);obtain⟨r,hR⟩:∃r:Int,(if mayM l then 0 else 2)=r:=⟨_,rfl⟩;rw[hR];have HRR:=Zh hR;clear hR;go_enter Tryz.func45,Tryz.ntmps45;go_wp2_with fail;refine HC.out.mono ?_;rintro e w2 ⟨rfl,hf2⟩;have HF:=Zh (box_fr hf2);clear hf2;cases hm:mayM l with
 |true=>
  have HM:=Zh hm;clear hm;simp only[if_true];go_wp2_with fail;go_ret;exact⟨ret_int (by rw[←HRR.out,HM.out];rfl),HF.out⟩
 |false=>
  have HM:=Zh hm;clear hm;simp only[Bool.false_eq_true,if_false];go_wp2_with fail;go_ret;exact⟨ret_int (by rw[←HRR.out,HM.out];rfl),HF.out⟩
theorem check_catch (b:Nat) (old:Value) (T:TypeId) (x y:Int) (w:World) (hb:w.heap[b]? =some (.cells #[old] T (0,0))):
  CallsD Tryz.prog 46 #[.pointer (some ⟨b,0,none⟩)] (.panicking [{v:=faultV x y,recovered:=false}]) w fun e u' w'=>
   e= .returned (.tuple #[])∧u'= .panicking [{v:=faultV x y,recovered:=true}]∧w'.heap[b]? =some (.cells #[faultV x y] T (0,0))∧Fr (fun k=>k=b) w w':=by
 have hta:∀w:World,(Instr.typeAssert (.iface 67 (.agg #[.int .i64 x,.int .i64 y])) 20 67 true).run Tryz.prog w= .ok (.tuple #[.agg #[.int .i64 x,.int .i64 y],.bool true]) w:=fun w=>by kernel_rfl
 have hmi:∀w:World,(Instr.makeInterface 67 (.agg #[.int .i64 x,.int .i64 y])).run Tryz.prog w= .ok (.iface 67 (.agg #[.int .i64 x,.int .i64 y])) w:=fun w=>by kernel_rfl
 have hf1:=(Fr.refl (fun k=>k=b) w).alloc (.cells #[.int .i64 x,.int .i64 y] 67);have hb1:=Zb hb ((Zf w).alloc (.cells #[.int .i64 x,.int .i64 y] 67)) (non _);have hb2:=blk_set hb1 0 (faultV x y);have hf3:=hf1.setCell ⟨b,0,none⟩ (faultV x y) (.inl rfl);have c1:=(Zc hb1).1 0 _ rfl;have z1:=(Zc hb1).2 0;refine callsD_of_wpS Tryz.func46 rfl fun c₀ cs hu=>?_;apply wpS_seq;apply wpS_region;unfold faultV at*;simp[wpOpsS,go_sem,recoverD,hu,Tryz.ntmps46,Exit.thenS];refine wpS_of_wp ?_;go_wp2_with fail;refine⟨rfl,_,rfl,_,by simp[results,Tryz.results46,go_sem],rfl,rfl,?_,?_⟩
 ·simpa using hb2
 ·exact hf3
theorem check_idle (b:Nat) (w:World):
  CallsD Tryz.prog 46 #[.pointer (some ⟨b,0,none⟩)] .returning w fun e u' w'=>e= .returned (.tuple #[])∧u'= .returning∧w=w':=by
 refine callsD_of_wpS Tryz.func46 rfl fun c₀ cs hu=>?_;apply wpS_seq;apply wpS_region;simp[wpOpsS,go_sem,recoverD,hu,Tryz.ntmps46,Exit.thenS];refine wpS_of_wp ?_;go_wp2_with fail;refine⟨rfl,_,?_,_,by simp[results,Tryz.results46,go_sem],rfl,rfl,rfl⟩;rw[←hu]
theorem scFun_n (P:List Fu) (F:Nat) (f:Fu) (n m:Int) (h:scFun P F f n= .ok m):n≤m∧m≤n+St.sizes f.body+2:=by
 unfold scFun at h;split at h
 ·cases h
 split at h
 ·cases h
 rename_i a ha;have h1:=scParams_n _ _ _ ha;split at h
 ·cases h
 rename_i a1 aw hb;have h2:=scStmts_n P F _ _ _ _ _ hb;split at h
 ·cases h;simp only at h1;omega
 ·cases h
theorem scWalk_n (P:List Fu):∀(i:Nat) (n:Int),i≤P.length→scWalk P i= .ok n→0≤n∧n≤2*i+Fu.sizes (P.take i)
 |0,n,_,h=>by cases h;simp[Fu.sizes]
 |i+1,n,hi,h=>by
  rw[scWalk] at h;split at h
  ·cases h
  rename_i m hm;have h1:=scWalk_n P i m (by omega) hm;have h2:=scFun_n _ _ _ _ _ h;have h3:=fsizes_take P i (by omega);rw[List.getD_eq_getElem?_getD,List.getElem?_eq_getElem (by omega),Option.getD_some] at h2
  push_cast
  omega
theorem scWalk_mono (P:List Fu) (x:Int×Int):∀(i j:Nat),i≤j→scWalk P i= .error x→scWalk P j= .error x
 |i,j,hij,h=>by
  induction hij with
  |refl=>exact h
  |step _ ih=>rw[scWalk,ih]
def scCheckV (P:List Fu):Value:=if mayM P then(match scWalk P P.length with
 | .error x=>faultV x.1 x.2
 | .ok _=>.nilIface) else faultV 0 2
theorem scheck_any (P:List Fu) (ok:Nat→Prop) (A:Option Addr) (c:Nat) (w:World) (hr:RdRows ok w 5 A 0 (P.map Fu.d)) (hc:P.length*96≤reach) (hpc:P.length≤c) (hs:Fu.sizes P≤1099511620000) (hok:∀q,ok q→q<w.heap.size):
  Calls Tryz.prog 33 #[.agg #[.slice A P.length c]] w fun e w'=>e= .returned (scCheckV P)∧Fr Non w w':=by
 have hlen:P.length≤140737488355328:=by unfold reach at hc;omega
 have hmf:∀(fn:Fn) (first cap:Array Value) (w:World),(Instr.makeFunc fn first cap).run Tryz.prog w= .ok (.func fn first cap) w:=fun _ _ _ _=>rfl;have hmi:∀w:World,(Instr.makeInterface 67 (.agg #[.int .i64 0,.int .i64 2])).run Tryz.prog w= .ok (.iface 67 (.agg #[.int .i64 0,.int .i64 2])) w:=fun w=>by kernel_rfl
 obtain⟨W1,HW1⟩:∃W1,W1=(w.alloc (.cells #[.slice A P.length c] 24)).alloc (.cells #[.nilIface] 30):=⟨_,rfl⟩;have hfw:Fr Non w W1:=by rw[HW1];exact((Zf w).alloc _).alloc _
 have hbp:W1.heap[w.heap.size]? =some (.cells #[.slice A P.length c] 24 (0,0)):=by rw[HW1];exact blk_old (blk_new _ _ _)
 have hbr:W1.heap[w.heap.size+1]? =some (.cells #[.nilIface] 30 (0,0)):=by rw[HW1];exact blk_new' (by simp) _ _
 have HC:=Zh (pcheck_any P ok A c W1 (hr.fr hfw (fun _ _=>non _) (fun _ h=>h)) hc (by omega));have HR:=Zh hr;clear hr;have g0:=(Zc hbp).1 0 _ rfl;have HBP:=Zh hbp;clear hbp;have HBR:=Zh hbr;clear hbr;have HFW:=Zh hfw;clear hfw;have HW1L:=Zh HW1;obtain⟨r,hR⟩:∃r:Value,scCheckV P=r:=⟨_,rfl⟩;rw[hR];have HRR:=Zh hR;clear hR;go_enter_defers Tryz.func33,Tryz.ntmps33;go_upto_region 1 with fail;rw[show((w.alloc (.cells #[.slice A P.length c] 24)).alloc (.cells #[.nilIface] 30))=W1 from HW1.symm];clear HW1;go_wp2_with fail;refine HC.out.mono ?_;rintro e w2 ⟨rfl,hf2⟩;have hbr2:=Zb HBR.out hf2 (non _);have c2:=(Zc hbr2).1 0 _ rfl;have z2:=(Zc hbr2).2 0;have hbp2:=Zb HBP.out hf2 (non _);have p2:=(Zc hbp2).1 0 _ rfl;clear g0;cases hm:mayM P with
 |false=>
  have HM:=Zh hm;clear hm;simp only[Bool.false_eq_true,if_false];have hb3:=blk_set hbr2 0 (faultV 0 2);go_wp2_with fail;have c3:=(Zc hb3).1 0 _ rfl;have HF:=Zh (HFW.out.trans hf2);have HFF:=Zh (show Fr Non w (w2.setCell ⟨w.heap.size+1,0,none⟩ (faultV 0 2)) from HF.out.setCell _ _ (.inr (Nat.le_succ _)));unfold faultV at c3 HFF;simp[bodyPostD,Leaves,settle,results,Tryz.results33,go_sem,c3];exact⟨by rw[←HRR.out,scCheckV,HM.out];rfl,HFF.out⟩
 |true=>
  have HM:=Zh hm;clear hm;simp only[if_true];go_upto_region 6 with fail;obtain⟨W3,HW3⟩:∃W3,W3=w2.alloc (.cells #[.slice A P.length c,.int .i64 0,.map none,.map none] 73):=⟨_,rfl⟩;rw[←HW3];have hf3:Fr Non w2 W3:=by rw[HW3];exact(Zf w2).alloc _
  have hbw:W3.heap[w2.heap.size]? =some (.cells #[.slice A P.length c,.int .i64 0,.map none,.map none] 73 (0,0)):=by rw[HW3];exact blk_new _ _ _
  clear HW3 c2 z2 p2;have hbr3:=Zb hbr2 hf3 (non _);have hbp3:=Zb hbp2 hf3 (non _);have p3:=(Zc hbp3).1 0 _ rfl;have hz12:w.heap.size≤W1.heap.size:=HFW.out.size;have hz2:W1.heap.size≤w2.heap.size:=hf2.size;have hrl:=blk_lt HBR.out;have HF3:=Zh ((HFW.out.trans hf2).trans hf3);clear hf2 hf3;have HBW:=Zh hbw;clear hbw;have HBR3:=Zh hbr3;clear hbr3 hbr2 hbp2 hbp3;go_wp2_with fail
  go_loopw [20] (fun i wr=>∃(j:Nat) (n:Int) (v2 v3:Value),i= .int .i64 j∧j≤P.length∧scWalk P j= .ok n∧wr.heap[w2.heap.size]? =some (.cells #[.slice A P.length c,.int .i64 n,v2,v3] 73 (0,0))∧Fr (fun k=>k=w2.heap.size) W3 wr) (fun i _=>P.length-(intOf i).toNat)
  case atStart=>exact⟨0,0,_,_,rfl,by omega,rfl,HBW.out,Fr.refl _ _⟩
  case round=>
   obtain⟨j,n,v2,v3,rfl,hj,hwk,hbw,hfr⟩:=hrel;have HWK:=Zh hwk;clear hwk;have HNB:=Zh (scWalk_n P j n hj HWK.out);have HBJ:=Zh hbw;clear hbw;have hbr4:=Zb HBR3.out hfr (by omega);have HFJ:=Zh (HF3.out.then hfr fun k hk e=>by omega);have HFW3:=Zh hfr;clear hfr;by_cases hlt:j<P.length
   ·have hokF:okF P[j]=true:=by
     have h:=HM.out;simp only[mayM,Bool.and_eq_true,List.all_eq_true] at h;exact h.1 _ (List.getElem_mem hlt)
    have HSF:=Zh (scfun_any w.heap.size w2.heap.size ok A c P j hlt wr n v2 v3 HBJ.out (by omega) ⟨HR.out.fr HFJ.out (fun _ _=>non _) (fun _ h=>h),hc,hlt,hpc,hok⟩ hokF (HNB.out.1) (by have:=HNB.out.2;have:=fsizes_take P j hlt;have:=fsizes_take_le P (j+1);have h16:=HM.out;simp only[mayM,Bool.and_eq_true,decide_eq_true_eq] at h16;omega));clear hokF;go_wp2_with fail;refine HSF.out.mono ?_;intro e w4 he;unfold FnR at he;have HST:=Zh (show scWalk P (j+1)=scFun P j P[j] n by rw[scWalk,HWK.out];simp only;rw[List.getD_eq_getElem?_getD,List.getElem?_eq_getElem hlt,Option.getD_some]);cases hf:scFun P j P[j] n with
    |error x=>
     rw[hf] at he;simp only at he;obtain⟨rfl,hf4⟩:=he;have HX:=Zh (scWalk_mono P x (j+1) P.length (by omega) (HST.out.trans hf));clear hf;have hbr5:=Zb hbr4 hf4 (by omega);have HF5:=Zh (HFJ.out.then hf4 fun k hk e=>by omega);clear hf4 hbr4;go_wp2_with fail;refine leaves_cons (f:=46) (args:=#[.pointer (some ⟨w.heap.size+1,0,none⟩)]) (by simp) (by simp[go_sem]) ?_;refine(check_catch (w.heap.size+1) _ _ x.1 x.2 _ hbr5).mono ?_;rintro e u' w'' ⟨rfl,rfl,hb6,hf6⟩;have c6:=(Zc hb6).1 0 _ rfl;have HF6:=Zh (HF5.out.then hf6 fun k hk e=>by omega);clear hf6;simp[Leaves,settle,results,Tryz.results33,go_sem,c6];exact⟨by rw[←HRR.out,scCheckV,HM.out,HX.out];rfl,HF6.out⟩
    |ok m=>
     rw[hf] at he;simp only at he;obtain⟨rfl,hf4,v2',v3',hb4⟩:=he;have HX:=Zh (HST.out.trans hf);clear hf hbr4;have HF4:=Zh hf4;clear hf4;have HB4:=Zh hb4;clear hb4;go_wp2_with fail;go_roundw
     case rel=>exact⟨j+1,m,v2',v3',by go_num,by omega,HX.out,HB4.out,HFW3.out.trans HF4.out⟩
     case measure=>simp[intOf];omega
   ·have hje:j=P.length:=by omega
    subst hje;have c4:=(Zc hbr4).1 0 _ rfl;have z4:=(Zc hbr4).2 0;have hb5:=blk_set hbr4 0 .nilIface;have HF5:=Zh (show Fr Non w (wr.setCell ⟨w.heap.size+1,0,none⟩ .nilIface) from HFJ.out.setCell _ _ (.inr (Nat.le_succ _)));go_wp2_with fail;refine leaves_cons (f:=46) (args:=#[.pointer (some ⟨w.heap.size+1,0,none⟩)]) (by simp) (by simp[go_sem]) ?_;refine(check_idle (w.heap.size+1) _).mono ?_;rintro e u' w'' ⟨rfl,rfl,rfl⟩;have c6:=(Zc hb5).1 0 _ rfl;simp[Leaves,settle,results,Tryz.results33,go_sem,c6];exact⟨by rw[←HRR.out,scCheckV,HM.out,HWK.out];rfl,HF5.out⟩
section
open Go.Extern.Stop Go.Stop Go.Extern
abbrev hdl (t:Nat):Value:=.pointer (some ⟨4,t,none⟩)
abbrev rty (t:Nat):Value:=.iface 151 (.agg #[hdl t])
abbrev FT:Nat:=67
abbrev PT:Nat:=94
theorem fx1 (t:Addr) (w:World):(ReflectliteValue.unpack (.iface PT (.pointer (some t)))).run Tryz.prog w
 = .ok (.agg #[hdl PT,.pointer (some ⟨w.heap.size,0,none⟩),.int .u64 150]) (w.alloc (.cells #[.pointer (some t)] PT)):=by kernel_rfl
theorem fx2 (a:Addr) (w:World):(ReflectliteValue.methodAny (ReflectliteValue.valueError "reflectlite.Value.Type" 0) (fun t _ _ _=>ReflectliteType.toType t) #[.agg #[hdl PT,.pointer (some a),.int .u64 150]]).run Tryz.prog w
 = .ok (rty PT) w:=by kernel_rfl
theorem fx3 (h:Value) (w:World):(Go.method 341 151 (.agg #[h]) "Kind").run Tryz.prog w= .ok (172,h) w:=by kernel_rfl
theorem fx4 (w:World):((ReflectliteType.abiMethod fun t=>(fun a:Nat=>Value.int IntKind.u8 (a:Int))<$>Rtype.kind t) #[hdl PT]).run Tryz.prog w= .ok (.int .u8 22) w:=by kernel_rfl
theorem fx5 (w:World):((ReflectliteType.abiMethod fun t=>(fun a:Nat=>Value.int IntKind.u8 (a:Int))<$>Rtype.kind t) #[hdl FT]).run Tryz.prog w= .ok (.int .u8 25) w:=by kernel_rfl
theorem rlm (z:Sem Value) (f:TypeId→Addr→Nat→Nat→Sem Value) (v:Value):
 ReflectliteValue.method z f #[v]=(do match ←ReflectliteValue.parts v with|none=>z|some (t,a,fl)=>f t a fl (fl%32)):=rfl
theorem fx6 (a:Addr) (w:World):(ReflectliteValue.parts (.agg #[hdl PT,.pointer (some a),.int .u64 150])).run Tryz.prog w= .ok (some (PT,a,150)) w:=by kernel_rfl
theorem fx7 (a p:Addr) (W:World) (ha:W.cell? a=some (.pointer (some p))):
  (ReflectliteValue.method (ReflectliteValue.valueError "reflectlite.Value.IsNil" 0) ReflectliteValue.isNil #[.agg #[hdl PT,.pointer (some a),.int .u64 150]]).run Tryz.prog W= .ok (.bool false) W:=by
 rw[rlm];simp only[Sem.run_bind,fx6,Result.andThen];simp[ReflectliteValue.isNil,loadVar,isAgg,underlying,Tryz.underlying94,ha,Result.andThen]
theorem fx8 (h:Value) (w:World):(Go.method 341 151 (.agg #[h]) "Elem").run Tryz.prog w= .ok (198,.agg #[h]) w:=by kernel_rfl
theorem fx9 (h:Value) (w:World):(Go.method 341 151 (.agg #[h]) "Implements").run Tryz.prog w= .ok (199,.agg #[h]) w:=by kernel_rfl
theorem fx10 (h:Value) (w:World):(Go.method 341 151 (.agg #[h]) "AssignableTo").run Tryz.prog w= .ok (196,.agg #[h]) w:=by kernel_rfl
theorem fx10c (h:Value) (w:World):(Go.method 341 151 (.agg #[h]) "Comparable").run Tryz.prog w= .ok (197,.agg #[h]) w:=by kernel_rfl
theorem fx11 (w:World):(ReflectliteType.method ReflectliteType.elem #[.agg #[hdl PT]]).run Tryz.prog w= .ok (rty FT) w:=by kernel_rfl
theorem fx12 (w:World):(ReflectliteType.relation "Implements" ReflectliteType.implements_ #[.agg #[hdl FT],rty 30]).run Tryz.prog w= .ok (.bool true) w:=by kernel_rfl
theorem fx13 (v:Value) (w:World):(ReflectliteType.typeOf #[.iface FT v]).run Tryz.prog w= .ok (rty FT) w:=by kernel_rfl
theorem fx13e (v:Value) (w:World):(ReflectliteType.typeOf #[.iface 51 v]).run Tryz.prog w= .ok (rty 51) w:=by kernel_rfl
theorem fx14 (w:World):(ReflectliteType.relation "AssignableTo" ReflectliteType.assignableTo #[.agg #[hdl FT],rty FT]).run Tryz.prog w= .ok (.bool true) w:=by kernel_rfl
theorem fx15 (x y:Int) (w:World):(ReflectliteValue.unpack (.iface FT (.agg #[.int .i64 x,.int .i64 y]))).run Tryz.prog w
 = .ok (.agg #[hdl FT,.pointer (some ⟨w.heap.size,0,none⟩),.int .u64 153]) (w.alloc (.cells #[.int .i64 x,.int .i64 y] FT)):=by kernel_rfl
theorem fx16 (w:World):(Rtype.elem? PT).run Tryz.prog w= .ok (some FT) w:=by kernel_rfl
theorem fx17 (p:Addr) (w:World):(ReflectliteValue.mk FT p ReflectliteValue.flagAddr).run Tryz.prog w= .ok (.agg #[hdl FT,.pointer (some p),.int .u64 409]) w:=by kernel_rfl
theorem fx18 (a p:Addr) (W:World) (ha:W.cell? a=some (.pointer (some p))):
  (ReflectliteValue.method (ReflectliteValue.valueError "reflectlite.Value.Elem" 0) ReflectliteValue.elem #[.agg #[hdl PT,.pointer (some a),.int .u64 150]]).run Tryz.prog W
    = .ok (.agg #[hdl FT,.pointer (some p),.int .u64 409]) W:=by
 rw[rlm];simp only[Sem.run_bind,fx6,Result.andThen];simp[ReflectliteValue.elem,loadVar,isAgg,underlying,Tryz.underlying94,ha,Result.andThen,fx16,fx17]
theorem rls (v x:Value):ReflectliteValue.set #[v,x]=(do
 let (some (dst,a,fl),some (src,b,_)):=(←ReflectliteValue.parts v,←ReflectliteValue.parts x)
  |unsupported (.noEntry "extern/(internal/reflectlite.Value).Set.zeroValue")
 if fl / ReflectliteValue.flagAddr%2==0 then unsupported (.noEntry "extern/(internal/reflectlite.Value).Set.unaddressable")
 let val ←loadVar src b
 if ←Rtype.directlyAssignable dst src then storeVar dst a val
 else if ←Rtype.implements dst src then
  if(←Rtype.kind src)==20 then
   match val with
   | .nilIface=>unsupported (.noEntry "extern/reflectlite: a nil value of one interface type handed on as a value of another")
   |_=>storeVar dst a val
  else storeVar dst a (.iface src val)
 else panicString ("reflectlite.Set: value of type "++(←Rtype.spelt src)++ " is not assignable to type "++(←Rtype.spelt dst))
 pure (.tuple #[])):=rfl
theorem fx19 (a:Addr) (w:World):(ReflectliteValue.parts (.agg #[hdl FT,.pointer (some a),.int .u64 409])).run Tryz.prog w= .ok (some (FT,a,409)) w:=by kernel_rfl
theorem fx20 (a:Addr) (w:World):(ReflectliteValue.parts (.agg #[hdl FT,.pointer (some a),.int .u64 153])).run Tryz.prog w= .ok (some (FT,a,153)) w:=by kernel_rfl
theorem fx21 (w:World):(Rtype.directlyAssignable FT FT).run Tryz.prog w= .ok true w:=by kernel_rfl
theorem fx23a (b:Nat) (x y:Int) (W:World) (T:TypeId) (hb:W.heap[b]? =some (.cells #[.int .i64 x,.int .i64 y] T (0,0))):
  (loadVar FT ⟨b,0,none⟩).run Tryz.prog W= .ok (.agg #[.int .i64 x,.int .i64 y]) W:=by
 have c0:=(Zc hb).1 0 _ rfl;have c1:=(Zc hb).1 1 _ rfl;have hs:∀w:World,(sizeOf FT).run Tryz.prog w= .ok 2 w:=fun w=>by kernel_rfl
 simp[loadVar,isAgg,underlying,Tryz.underlying67,c0,c1,Result.andThen,hs,loadCells,loadCellsFrom,Addr.add]
theorem fx23b (ta:Nat) (x y x0 y0:Int) (W:World) (ht:W.heap[ta]? =some (.cells #[.int .i64 x0,.int .i64 y0] FT (0,0))):
  (storeVar FT ⟨ta,0,none⟩ (.agg #[.int .i64 x,.int .i64 y])).run Tryz.prog W= .ok () ((W.setCell ⟨ta,0,none⟩ (.int .i64 x)).setCell ⟨ta,1,none⟩ (.int .i64 y)):=by
 have t0:=(Zc ht).1 0 _ rfl;have z0:=(Zc ht).2 0;have ht1:=blk_set ht 0 (.int .i64 x);have t1:=(Zc ht1).1 1 _ rfl;have z1:=(Zc ht1).2 1;have hs:∀w:World,(sizeOf FT).run Tryz.prog w= .ok 2 w:=fun w=>by kernel_rfl
 simp[storeVar,Value.cells,storeCells,Addr.add,hs,Result.andThen];rw[run_store Tryz.prog W ⟨ta,0,none⟩ _ _ (by rfl)];simp[t0,z0];rw[run_store Tryz.prog _ ⟨ta,1,none⟩ _ _ (by rfl)];simp[t1,z1]
theorem fx23 (ta b:Nat) (x y x0 y0:Int) (W:World) (T:TypeId) (hb:W.heap[b]? =some (.cells #[.int .i64 x,.int .i64 y] T (0,0))) (ht:W.heap[ta]? =some (.cells #[.int .i64 x0,.int .i64 y0] FT (0,0))):
  (ReflectliteValue.set #[.agg #[hdl FT,.pointer (some ⟨ta,0,none⟩),.int .u64 409],.agg #[hdl FT,.pointer (some ⟨b,0,none⟩),.int .u64 153]]).run Tryz.prog W
    = .ok (.tuple #[]) ((W.setCell ⟨ta,0,none⟩ (.int .i64 x)).setCell ⟨ta,1,none⟩ (.int .i64 y)):=by
 have h1:=fx23a b x y W T hb;have h2:=fx23b ta x y x0 y0 W ht;rw[rls];simp only[Sem.run_bind,fx19,fx20,Result.andThen];simp[ReflectliteValue.flagAddr,h1,h2,Result.andThen,fx21]
def asW (w:World) (t:Nat) (x y:Int):World:=(((w.alloc (.cells #[.pointer (some ⟨t,0,none⟩)] PT)).alloc (.cells #[hdl PT,.pointer (some ⟨w.heap.size,0,none⟩),.int .u64 150] 113)).alloc (.cells #[hdl PT,.pointer (some ⟨w.heap.size,0,none⟩),.int .u64 150] 113)).alloc (.cells #[.int .i64 x,.int .i64 y] FT)
theorem as_hit (t:Nat) (x y x0 y0:Int) (w:World) (hg:w.cell? ⟨0,0,none⟩=some (rty 30)) (ht0:w.heap[t]? =some (.cells #[.int .i64 x0,.int .i64 y0] FT (0,0))):
  Calls Tryz.prog 60 #[.iface FT (.agg #[.int .i64 x,.int .i64 y]),.iface PT (.pointer (some ⟨t,0,none⟩))] w fun ev w'=>ev= .returned (.bool true)∧w'=((asW w t x y).setCell ⟨t,0,none⟩ (.int .i64 x)).setCell ⟨t,1,none⟩ (.int .i64 y):=by
 unfold asW;have h6:=@run_callFunc_extern Tryz.prog 89 _ (fun args=>ReflectliteValue.unpack (args.getD 0 (.tuple #[]))) Tryz.func89 (by kernel_rfl) (by kernel_rfl) (by kernel_rfl) (by kernel_rfl);have h7:=@run_callFunc_extern Tryz.prog 90 _ (ReflectliteValue.methodAny (ReflectliteValue.valueError "reflectlite.Value.Type" 0) (fun t _ _ _=>ReflectliteType.toType t)) Tryz.func90 (by kernel_rfl) (by kernel_rfl) (by kernel_rfl) (by kernel_rfl);have h8:=@run_callFunc_extern Tryz.prog 91 _ (ReflectliteValue.method (ReflectliteValue.valueError "reflectlite.Value.IsNil" 0) ReflectliteValue.isNil) Tryz.func91 (by kernel_rfl) (by kernel_rfl) (by kernel_rfl) (by kernel_rfl);have h27:=@run_callFunc_extern Tryz.prog 172 _ (ReflectliteType.abiMethod fun t=>do pure (.int .u8 (←Rtype.kind t))) Tryz.func172 (by kernel_rfl) (by kernel_rfl) (by kernel_rfl) (by kernel_rfl);have h37:=@run_callFunc_extern Tryz.prog 198 _ (ReflectliteType.method ReflectliteType.elem) Tryz.func198 (by kernel_rfl) (by kernel_rfl) (by kernel_rfl) (by kernel_rfl);have h38:=@run_callFunc_extern Tryz.prog 199 _ (ReflectliteType.relation "Implements" ReflectliteType.implements_) Tryz.func199 (by kernel_rfl) (by kernel_rfl) (by kernel_rfl) (by kernel_rfl);have h10:=@run_callFunc_extern Tryz.prog 93 _ ReflectliteType.typeOf Tryz.func93 (by kernel_rfl) (by kernel_rfl) (by kernel_rfl) (by kernel_rfl);have h35:=@run_callFunc_extern Tryz.prog 196 _ (ReflectliteType.relation "AssignableTo" ReflectliteType.assignableTo) Tryz.func196 (by kernel_rfl) (by kernel_rfl) (by kernel_rfl) (by kernel_rfl);have h11:=@run_callFunc_extern Tryz.prog 121 _ (ReflectliteValue.method (ReflectliteValue.valueError "reflectlite.Value.Elem" 0) ReflectliteValue.elem) Tryz.func121 (by kernel_rfl) (by kernel_rfl) (by kernel_rfl) (by kernel_rfl);have h12:=@run_callFunc_extern Tryz.prog 122 _ ReflectliteValue.set Tryz.func122 (by kernel_rfl) (by kernel_rfl) (by kernel_rfl) (by kernel_rfl);have tO:=fx13;have mA:=fx10;have a25:=fx14;have v25:=fx15;have f6:=fx1;have f7:=fx2;have mK:=fx3;have mE:=fx8;have mI:=fx9;have k27:=fx4;have k25:=fx5;have e27:=fx11;have i25:=fx12;have n8:=fx7 ⟨w.heap.size,0,none⟩ ⟨t,0,none⟩ ((w.alloc (.cells #[.pointer (some ⟨t,0,none⟩)] PT)).alloc (.cells #[hdl PT,.pointer (some ⟨w.heap.size,0,none⟩),.int .u64 150] 113)) (by simp);have hlt:0<w.heap.size:=by
  rcases Nat.eq_zero_or_pos w.heap.size with h0|h
  ·simp[World.cell?,h0] at hg
  ·exact h
 have hg2:((w.alloc (.cells #[.pointer (some ⟨t,0,none⟩)] PT)).alloc (.cells #[hdl PT,.pointer (some ⟨w.heap.size,0,none⟩),.int .u64 150] 113)).cell? ⟨0,0,none⟩=some (rty 30):=by
  rw[World.cell?_alloc_lt _ _ ⟨0,0,none⟩ (by simp),World.cell?_alloc_lt _ _ ⟨0,0,none⟩ hlt];exact hg
 have el:=fx18 ⟨w.heap.size,0,none⟩ ⟨t,0,none⟩ (((w.alloc (.cells #[.pointer (some ⟨t,0,none⟩)] PT)).alloc (.cells #[hdl PT,.pointer (some ⟨w.heap.size,0,none⟩),.int .u64 150] 113)).alloc (.cells #[hdl PT,.pointer (some ⟨w.heap.size,0,none⟩),.int .u64 150] 113)) (by rw[World.cell?_alloc_lt _ _ ⟨w.heap.size,0,none⟩ (by simp;omega)];simp);have st:=fx23 t (w.heap.size+1+1+1) x y x0 y0 ((((w.alloc (.cells #[.pointer (some ⟨t,0,none⟩)] PT)).alloc (.cells #[hdl PT,.pointer (some ⟨w.heap.size,0,none⟩),.int .u64 150] 113)).alloc (.cells #[hdl PT,.pointer (some ⟨w.heap.size,0,none⟩),.int .u64 150] 113)).alloc (.cells #[.int .i64 x,.int .i64 y] FT)) FT
  (blk_new' (by simp) _ _) (blk_old (blk_old (blk_old (blk_old ht0))))
 go_enter Tryz.func60,Tryz.ntmps60
 go_wp2
 refine wp_loop_rounds 1 ?_;rw[rounds_succ]
 go_wp2
 go_ret;exact⟨rfl,rfl⟩
end
section
open Go.ChangeShapes Go.WideShapes
theorem own_knob:ownKnob Tryz.prog.godebug=none:=by kernel_rfl
theorem et_glob:Program.globalNamed Tryz.prog "errors.errorType"=some 0:=by kernel_rfl
theorem et_type:(Tryz.prog.cutTypes.find? (·.1== "internal/reflectlite.rtype")).map (·.2)=some 151:=by kernel_rfl
theorem et_rows:((List.range (341-100)).filter fun t=>Program.rowNamed Tryz.prog t [101,114,114,111,114])=[30]:=by kernel_rfl
theorem et_size:Tryz.prog.types.size=341-100:=by kernel_rfl
theorem handle_of_laid {W:World} (h:laidMetH Tryz.prog [("errors.errorType",Rows.laid_errors_errorType)] W):W.cell? ⟨0,0,none⟩=some (rty 30):=by
 have h':laidMet Tryz.prog [] W∧handlesMet Tryz.prog [("errors.errorType",Rows.laid_errors_errorType)] W:=h;obtain⟨name,u,ty,e1,e2,e3,e4,e5⟩:=h'.2 _ (List.mem_singleton.2 rfl);have en:name=[101,114,114,111,114]:=(Option.some.inj e1).symm;subst en;obtain rfl:=Option.some.inj (et_type.symm.trans e2);have hm:ty∈(List.range (341-100)).filter fun t=>Program.rowNamed Tryz.prog t [101,114,114,111,114]:=List.mem_filter.2 ⟨List.mem_range.2 (by rw[←et_size];exact e3),e4⟩;rw[et_rows] at hm;obtain rfl:=List.mem_singleton.1 hm;have hh:typeHandle Tryz.prog 30=hdl 30:=by kernel_rfl
 rw[hh] at e5;simpa using World.var?_cell et_glob e5 0
noncomputable def laidWorld (os:Os):World:=
 let w0:=World.holding Tryz.prog os ⟨#[],#[],[]⟩
 {w0 with heap:=w0.heap.modify 0 fun
   | .cells _ t frozen=>.cells #[rty 30] t frozen
   |o=>o}
theorem laidWorld_met (os:Os) (args:Array Value):laidMetH Tryz.prog [("errors.errorType",Rows.laid_errors_errorType)] ((laidWorld os).forCall (fun _ _=>0) ⟨#[],args,[]⟩).memory:=
 laidMetH_of_parts (laidMet_nil _ _) (by kernel_rfl)
theorem laidOut:laidOutB Tryz.prog=true:=by kernel_rfl
theorem readProg:Program.readableRec Tryz.prog 24=true:=by kernel_rfl
theorem rowProg:24<Tryz.prog.types.size:=by rw[et_size];omega
theorem Fr.below {w w':World} (h:Fr Non w w'):Below w.heap.size w w':=⟨h.os,h.tape,h.output,h.size,fun k hk=>h.block k hk (fun h=>h)⟩
section
variable {H:Type} {enc:TypeId×Value→H} {P:Program}
theorem post_of_fr {f:Func} {s:ChangeSpec} {apart fresh handsOn again:Bool} {W W':World} {args:Array Value} {v:Value} {ds gs:List (DataW H)} {before:List MemPlace} (hfr:Fr Non W W')
  (hW:DataW.Whole enc P f.params.toList s.vars apart W args.toList ds gs before)
  (hres:∀(b:Nat) (sp:Nat→Bool) (hd:Bool),DataW.TrodAll enc P W' b sp hd f.resultTypes.toList (v.resultList f.resultTypes.size) (s.fn H (ds++gs)).results [])
  (hargs:∀sp:Nat→Bool,(∀p∈before,sp p.block=true)→DataW.TrodAll enc P W' 0 sp true f.params.toList args.toList (s.fn H (ds++gs)).args before)
  (hvars:∀sp:Nat→Bool,DataW.TrodVars enc P W' sp s.vars (s.fn H (ds++gs)).vars [])
  (hok:∀(j:Nat) (t:TypeId) (r:Value),f.resultTypes[j]? =some t→(v.resultList f.resultTypes.size)[j]? =some r→Value.okWide P W' .any 0 t r):
  s.post enc P f apart fresh handsOn again W args v W':=by
 have hold:∀p∈before,(fun b=>decide (b<W.heap.size)) p.block=true:=fun p hp=>by simpa using hW.lt p hp
 have hlt:∀p∈before,p.block<W.heap.size:=hW.lt;refine⟨ds,gs,before,[],before,[],hW,hres _ _ _,hargs _ hold,hvars _,World.keptBut_mono (fun p hp=>⟨hp,?_⟩) (hfr.below.frame (· ∈before)),fun _=>?_⟩
 ·exact Or.inr (Or.inl hp)
 ·obtain⟨_,_,_,_,_,hz,hn⟩:=hW;refine⟨hok,_,_,([]++before)++[],⟨[]++before,[],trodAll_append (hargs _ (fun _ _=>rfl)) (hres _ _ _),hvars _,rfl,?_,?_⟩,?_⟩
  ·intro b off hp;have hp':MemPlace.cell b off∈before:=by simpa using hp
   have hb:b<W.heap.size:=hlt _ hp';have e:W'.frozen? ⟨b,off,none⟩=W.frozen? ⟨b,off,none⟩:=by unfold World.frozen?;simp only;rw[hfr.block b hb (fun h=>h)]
   rw[e];exact hz b off hp'
  ·intro ha;simpa using hn ha
  ·intro p hp _;simpa using hp
end
end
section
open Go.ChangeShapes Go.WideShapes
def tabZ:Array Value:=#[.int .u64 0,.int .u64 0,.int .u64 0,.int .u64 0,.int .u64 0,.int .u64 0,.int .u64 0,.int .u64 0,.int .u64 0,.int .u64 0,.int .u64 0,.int .u64 0,.int .u64 0,.int .u64 0,.int .u64 0,.int .u64 0,.int .u64 0,.int .u64 0,.int .u64 0,.int .u64 0]
theorem tab_row:((begin Tryz.prog (fun _ _=>0) default).world.heap[1]?).bind Obj.row? =some (tabZ,219):=by kernel_rfl
theorem tab_glob:1<(Tryz.prog).globals.size:=by decide+kernel
theorem tab_build:(Tryz.prog).buildable 219=true:=by kernel_rfl
theorem tab_types:(Tryz.prog).cellTypes (Tryz.prog).depth 219=some (List.replicate 20 42):=by kernel_rfl
theorem tabZ_size:tabZ.size=20:=rfl
theorem tab_of_shaped {w:World} (h:w.ShapedOpen Tryz.prog):∃m,w.cell? ⟨1,2,none⟩=some (.int .u64 m):=by
 obtain⟨cs,hh,hs,hr⟩:=h.1 _ tabZ 219 tab_glob tab_row;obtain⟨ts,hts,_,hall⟩:=hr tab_build;rw[tab_types] at hts;cases hts;have h2:2<cs.size:=by rw[hs,tabZ_size];omega
 obtain⟨u,hu',hok⟩:=hall 2 cs[2] (by simp[h2]);have:u=42:=by simpa using hu'.symm
 subst this;have hcell:w.cell? ⟨1,2,none⟩=some cs[2]:=by simp[World.cell?,hh,h2]
 rw[hcell];unfold Cell.ok at hok;rw[Tryz.underlying42] at hok;cases hv:cs[2]<;>rw[hv] at hok<;>simp at hok
 case int k' n=>exact⟨n,by rw[hok.1]⟩
section
variable {H:Type} {enc:TypeId×Value→H}
theorem lifted_shaped {a:Assume} {C:Checked} {os:Os} {f:FuncId} {fn:Func} {s:ChangeSpec} {apart fresh handsOn again:Bool} {X:World→Array Value→Prop}
  (hX:∀(w w':World) (args:Array Value),w.heap=w'.heap→X w args→X w' args)
  (own:ownKnob C.prog.godebug=none) (started:os.Started) (noInit:C.prog.inits.idxOf? f=none) (hfn:C.prog.funcs[f]? =some fn)
  (witness:∃(w:World) (tape:Tape) (i:Input),w.os=os∧(w.forCall tape i).Shaped C.prog∧i.vars=[]∧Input.okWide C.prog (w.forCall tape i) .any w.heap.size f i∧
    ((s.pre enc C.prog fn [] apart (w.forCall tape i).memory i.args∧X (w.forCall tape i).memory i.args)∧sizedMet enc C.prog fn (OpenSpec.ofChange s) apart (w.forCall tape i).memory i.args)∧a.holds C.prog (lone (Frame.enter C.prog f i.args .normal) [] (w.forCall tape i)))
  (contract:∀(W:World) (base:Nat) (args:Array Value) (ds gs:List (DataW H)) (before:List MemPlace),W.ShapedOpen C.prog→
    (∀(j:Nat) t v,fn.params[j]? =some t→args[j]? =some v→Value.okWide C.prog W .any base t v)→
    DataW.Whole enc C.prog fn.params.toList s.vars apart W args.toList ds gs before→
    (DataW.weightsEach C.prog (fn.params.toList++s.plain.varTypes C.prog) (ds++gs)).all (· ≤reachBytes)=true→X W args→
    Calls C.prog f args W fun e W'=>∃v,e= .returned v∧s.post enc C.prog fn apart fresh handsOn again W args v W'):
  ReturnsInHanded a C os f .any (fun w args=>(s.pre enc C.prog fn [] apart w args∧X w args)∧sizedMet enc C.prog fn (OpenSpec.ofChange s) apart w args) (s.post enc C.prog fn apart fresh handsOn again):=by
 refine returnsInHanded_of_calls own started noInit witness ?_;intro w tape i _ hsh _ hok hpre _;obtain⟨_,_,_,fn',hfn',_,_,_,_,hval⟩:=hok;obtain rfl:fn'=fn:=Option.some.inj (hfn'.symm.trans hfn);obtain⟨⟨⟨ds,gs,before,hw,_⟩,hx⟩,hz⟩:=hpre;refine(contract (w.forCall tape i) w.heap.size i.args ds gs before hsh hval (DataW.Whole.of_heap (w':=w.forCall tape i) (by rfl) hw) (hz.weights hw) (hX _ _ _ (by rfl) hx)).mono fun e W' ⟨v,he,hp⟩=>?_;subst he;exact ChangeSpec.post_blind hp
end
end
section
structure Tk where
 kind:UInt8
 text:ByteArray
 num:UInt64
 at_:Nat
def Tk.zero:Tk:=⟨0,⟨#[]⟩,0,0⟩
def bs (l:List UInt8):ByteArray:=⟨l.toArray⟩
def lexSigns:List ByteArray:=[⟨#[62,62,62]⟩,⟨#[46,46]⟩,⟨#[42,94]⟩,⟨#[60,60]⟩,⟨#[62,62]⟩,⟨#[60,36]⟩,⟨#[40]⟩,⟨#[41]⟩,⟨#[123]⟩,⟨#[125]⟩,⟨#[91]⟩,⟨#[93]⟩,⟨#[44]⟩,⟨#[59]⟩,⟨#[61]⟩,⟨#[35]⟩,⟨#[43]⟩,⟨#[45]⟩,⟨#[42]⟩,⟨#[47]⟩,⟨#[37]⟩,⟨#[38]⟩,⟨#[124]⟩,⟨#[94]⟩,⟨#[60]⟩]
def wLet:ByteArray:=⟨#[108,101,116]⟩
def wSecret:ByteArray:=⟨#[115,101,99,114,101,116]⟩
def wBuf:ByteArray:=⟨#[98,117,102]⟩
def wIf:ByteArray:=⟨#[105,102]⟩
def wElse:ByteArray:=⟨#[101,108,115,101]⟩
def wWhile:ByteArray:=⟨#[119,104,105,108,101]⟩
def wFor:ByteArray:=⟨#[102,111,114]⟩
def wView:ByteArray:=⟨#[118,105,101,119]⟩
def wEdit:ByteArray:=⟨#[101,100,105,116]⟩
def wMove:ByteArray:=⟨#[109,111,118,101]⟩
def wOpen:ByteArray:=⟨#[111,112,101,110]⟩
def wCall:ByteArray:=⟨#[99,97,108,108]⟩
def wSeal:ByteArray:=⟨#[115,101,97,108]⟩
def wFn:ByteArray:=⟨#[102,110]⟩
def wNum:ByteArray:=⟨#[110,117,109]⟩
def gBra:ByteArray:=⟨#[123]⟩
def gKet:ByteArray:=⟨#[125]⟩
def gBox:ByteArray:=⟨#[91]⟩
def gUnbox:ByteArray:=⟨#[93]⟩
def gPar:ByteArray:=⟨#[40]⟩
def gUnpar:ByteArray:=⟨#[41]⟩
def gCom:ByteArray:=⟨#[44]⟩
def gSem:ByteArray:=⟨#[59]⟩
def gEq:ByteArray:=⟨#[61]⟩
def gLt:ByteArray:=⟨#[60]⟩
def gDots:ByteArray:=⟨#[46,46]⟩
section
variable (ts:List Tk) (f:Nat)
end
end
def lexSign (s:ByteArray) (at_:Nat):Option ByteArray:=lexSigns.find? fun x=>decide (at_+x.size≤s.size)&&sq (s.extract at_ (at_+x.size)) x
theorem signs_any (w:World):Calls Tryz.prog 148 #[] w fun e w'=>∃b c,e= .returned (.slice (some ⟨b,0,none⟩) 25 c)∧Fr Non w w'∧RdRows (fun _=>True) w' 1 (some ⟨b,0,none⟩) 0 (lexSigns.map strD):=by
 go_enter Tryz.func148,Tryz.ntmps148;go_wp2_with fail;go_ret;exact⟨w.heap.size,25,rfl,(Fr.refl _ _).alloc _,rd_strs _ _ _ rfl⟩
theorem lex_small:∀x∈lexSigns,x.size≤3:=by decide
theorem find_none_at {α:Type} {p:α→Bool} {l:List α} (h:∀j (hj:j<l.length),p l[j]=false):l.find? p=none:=by
 rw[List.find?_eq_none];intro x hx;obtain⟨j,hj,rfl⟩:=List.mem_iff_getElem.1 hx;simp[h j hj]
theorem find_some_at {α:Type} {p:α→Bool}:∀{l:List α} {k:Nat} (hk:k<l.length),p l[k]=true→(∀j,j<k→∀hj:j<l.length,p l[j]=false)→l.find? p=some l[k]
 |x::l,0,_,h,_=>by simp at h;simp[h]
 |x::l,k+1,hk,h,hn=>by
  have h0:=hn 0 (by omega) (by simp);simp at h0;rw[List.find?_cons,h0];simp only;rw[find_some_at (k:=k) (by simpa using hk) (by simpa using h) (fun j hj hjl=>by have:=hn (j+1) (by omega) (by simpa using hjl);simpa using this)];rfl
theorem lexsign_any (s:ByteArray) (at_:Nat) (w:World) (hat:at_≤s.size) (hs:s.size≤1099511627776):
  Calls Tryz.prog 141 #[.string s,.int .i64 at_] w fun e w'=>e= .returned (.string ((lexSign s at_).getD ⟨#[]⟩))∧Fr Non w w':=by
 go_enter Tryz.func141,Tryz.ntmps141;go_wp2_with fail;refine(signs_any _).mono ?_;rintro e w1 ⟨b,c,rfl,hf,hr⟩;have HR:=Zh hr;clear hr;have HF:=Zh hf;clear hf;go_wp2_with fail
 go_loopw [6] (fun i wr=>∃k:Nat,i= .int .i64 k∧k≤25∧Fr Non w1 wr∧∀j,j<k→∀hj:j<lexSigns.length,(decide (at_+lexSigns[j].size≤s.size)&&sq (s.extract at_ (at_+lexSigns[j].size)) lexSigns[j])=false) (fun i _=>25-(intOf i).toNat)
 case atStart=>exact⟨0,rfl,by omega,Zf _,fun j hj=>by omega⟩
 case round=>
  obtain⟨k,rfl,hk,hfr,hno⟩:=hrel;have HN:=Zh hno;clear hno;have hlen:lexSigns.length=25:=rfl;have HLEN:=Zh hlen;clear hlen;by_cases hlt:k<25
  ·have hkl:k<lexSigns.length:=by rw[HLEN.out];exact hlt
   obtain⟨b0,o0,e0,hb,h0⟩:=at_str (HR.out.fr hfr (fun _ _=>non _) fun _ h=>h) k hkl;cases e0;have hx3:=lex_small _ (List.getElem_mem hkl);have HTR:=Zh (find_some_at (p:=fun x=>decide (at_+x.size≤s.size)&&sq (s.extract at_ (at_+x.size)) x) hkl);have hno2:=fun(hq:(decide (at_+lexSigns[k].size≤s.size)&&sq (s.extract at_ (at_+lexSigns[k].size)) lexSigns[k])=false)=>till (P:=fun j=>∀hj:j<lexSigns.length,(decide (at_+lexSigns[j].size≤s.size)&&sq (s.extract at_ (at_+lexSigns[j].size)) lexSigns[j])=false) HN.out (fun _=>hq);have HN2:=Zh hno2;clear hno2;generalize lexSigns[k]=x at*;simp only[Nat.zero_add] at h0;have y0:=ext_cell h0;by_cases hfit:at_+x.size≤s.size
   ·have hd:decide ((at_:Int)+(x.size:Int)≤(s.size:Int))=true:=decide_eq_true (by omega);go_upto_region 5 with fail;refine wp_region_ext (by kernel_rfl) (by kernel_rfl) ?_
    repeat (go_big_quiet_step (fail))
    refine wpQuiet_nil ?_;intro w2 hf2;clear y0;rw[tosq];have h2:=hf2.cell' h0 (non _);have HF2:=Zh (hfr.trans hf2);generalize hq:sq (s.extract at_ (at_+x.size)) x=q at*;have HQ:=Zh hq;clear hq;clear h0 hf2 hfr;cases q with
    |true=>
     have HT:=Zh (HTR.out (by simp[hfit]) HN.out);go_wp2_with fail;go_ret;refine⟨?_,HF.out.trans HF2.out⟩;rw[lexSign,HT.out];rfl
    |false=>
     have HN3:=Zh (HN2.out (by simp));go_wp2_with fail;go_roundw
     case rel=>exact⟨k+1,by go_num,by omega,HF2.out,HN3.out⟩
     case measure=>simp[intOf];omega
   ·have hd:decide ((at_:Int)+(x.size:Int)≤(s.size:Int))=false:=decide_eq_false (by omega);have HN3:=Zh (HN2.out (by simp[hfit]));go_upto_region 5 with fail;refine wp_region_ext (by kernel_rfl) (by kernel_rfl) ?_
    repeat (go_big_quiet_step (fail))
    refine wpQuiet_nil ?_;intro w2 hf2;have HF2:=Zh (hfr.trans hf2);clear y0 h0 hf2 hfr;go_wp2_with fail;go_roundw
    case rel=>exact⟨k+1,by go_num,by omega,HF2.out,HN3.out⟩
    case measure=>simp[intOf];omega
  ·obtain rfl:k=25:=by omega
   have HNO:=Zh (find_none_at (p:=fun x=>decide (at_+x.size≤s.size)&&sq (s.extract at_ (at_+x.size)) x) (l:=lexSigns) fun j hj=>HN.out j (by have:=HLEN.out;omega) hj);go_wp2_with fail;go_ret;refine⟨?_,HF.out.trans hfr⟩;rw[lexSign,HNO.out];rfl
end Go.Proofs.YtgiomfnpkkdknaaGreatDoor
