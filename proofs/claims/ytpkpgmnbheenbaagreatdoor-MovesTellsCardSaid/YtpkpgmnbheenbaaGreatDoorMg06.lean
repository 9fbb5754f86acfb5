/- Contracts and laws, Mg06 -/
import Derived.Test.YtpkpgmnbheenbaaGreatDoorMg01
import Derived.Test.YtpkpgmnbheenbaaGreatDoorMg03
import Derived.Test.YtpkpgmnbheenbaaGreatDoorMg04
import Derived.Test.YtpkpgmnbheenbaaGreatDoorMg05
import Derived.Recover
import Derived.Defers
import Derived.WalkKit
import Derived.LaidEql
import Derived.LaidHandle
import Derived.Stop.Asserts
import Derived.RowKitTokens
import Derived.ChangeVars
import Derived.JoinedOf
import Derived.RowKit
import Derived.LaidLaws
import Derived.Stop.Joined
import Derived.Carry
import Derived.Handed
import Derived.Deep.DeepCutAuto
import Derived.StillTailTactics
import Derived.Deep.AppendLies
import Derived.Deep.RegionLaw
namespace Go.Proofs.YtpkpgmnbheenbaaGreatDoor
open Go.RowKit
set_option linter.unusedVariables false
set_option linter.unusedSimpArgs false
set_option maxHeartbeats 8000000
set_option maxRecDepth 100000
theorem lookR_t' {b:Bool} (h:b=true):LookR b (.returned (.tuple #[])):=by subst h;rfl
theorem pcheck1_any (l:List Fu) (ok:Nat→Prop) (A:Option Addr) (c bb:Nat) (w:World) (hbb:w.heap[bb]? =some (.cells #[.slice A l.length c] 24 (0,0))) (hr:RdRows ok w 5 A 0 (l.map Fu.d)) (hc:l.length*96≤reach) (hs:Fu.sizes l≤1099511627776):
  Calls Tryz.prog 76 #[.pointer (some ⟨bb,0,none⟩)] w fun e w'=>LookR (mayM l) e∧Fr Non w w':=by
 have hlen:l.length≤140737488355328:=by unfold reach at hc;omega
 have HR:=Zh hr;clear hr;have g0:=(Zc hbb).1 0 _ rfl;have HBB:=Zh hbb;clear hbb;go_enter Tryz.func76,Tryz.ntmps76;go_wp2_with fail
 go_loopw [1,7] (fun t i wr=>∃j:Nat,i= .int .i64 j∧t= .int .i64 (Fu.sizes (l.take j))∧j≤l.length∧Fr Non w wr∧∀q,q<j→∀hq:q<l.length,okF l[q]=true) (fun _ i _=>l.length-(intOf i).toNat)
 case atStart=>exact⟨0,rfl,by simp[Fu.sizes],by omega,Zf _,fun j hj=>by omega⟩
 case round=>
  obtain⟨j,rfl,rfl,hj,hfr,hno⟩:=hrel;have HN:=Zh hno;clear hno;by_cases hlt:j<l.length
  ·obtain⟨b,o1,A1,c1,A2,c2,A3,c3,rfl,hb,e0,e1,e2,e3,e4,⟨p1,q1,r1⟩,⟨p2,q2,r2⟩,⟨p3,q3,r3⟩⟩:=at_fu (HR.out.fr hfr (fun _ _=>non _) (fun _ h=>h)) j hlt;have HF:=Zh hfr;clear hfr;have hf0:=(Zf wr).alloc (.cells #[.string l[j].name,.slice A1 l[j].params.length c1,.slice A2 l[j].body.length c2,.bool l[j].sec,.slice A3 l[j].ret.length c3] 53);have HT:=Zh (fsizes_take l j hlt);have HT2:=Zh (fsizes_take_le l (j+1));have HFN:=Zh (pfunction_any l[j] ok A1 A2 A3 c1 c2 c3 _ (by have:=fsize_le l j hlt;omega) (r1.fr hf0 (fun _ _=>non _) (fun _ h=>h)) q1 (r2.fr hf0 (fun _ _=>non _) (fun _ h=>h)) q2 (r3.fr hf0 (fun _ _=>non _) (fun _ h=>h)) q3);clear hf0 r1 r2 r3;have HAF:=Zh (fun h:okF l[j]=false=>all_false_of (p:=okF) j hlt h);go_wp2_with fail;refine HFN.out.mono ?_;rintro e w2 ⟨he,hf2⟩;have HF2:=Zh (HF.out.trans (box_fr hf2));clear hf2;cases hk:okF l[j] with
   |false=>
    rw[hk] at he;obtain rfl:=he.f;clear he;have HK:=Zh hk;clear hk;go_wp2_with fail;exact⟨rfl,lookR_f (by rw[mayM,HAF.out HK.out];rfl),HF2.out⟩
   |true=>
    rw[hk] at he;obtain rfl:=he.t;clear he;have HK:=Zh hk;clear hk;have hs1:Fu.sizes (l.take j)+St.sizes l[j].body≤1099511627776:=by have:=HT.out;have:=HT2.out;omega
    go_wp2_with fail;go_roundw
    case rel=>exact⟨j+1,by go_num,by rw[HT.out];congr 1<;>omega,by omega,HF2.out,till HN.out fun _=>HK.out⟩
    case measure=>simp[intOf];omega
  ·have hje:j=l.length:=by omega
   subst hje;have HA:=Zh (all_true_of (p:=okF) (l:=l) fun q hq=>HN.out q hq hq);have k0:=hfr.cell' g0 (non _);have HF:=Zh hfr;clear hfr;rw[List.take_length];obtain⟨d16,hd16⟩:∃x,decide ((l.length:Int)≤16)=x:=⟨_,rfl⟩;obtain⟨d4,hd4⟩:∃x,decide ((Fu.sizes l:Int)≤400)=x:=⟨_,rfl⟩;have HM:=Zh (show mayM l=(d16&&d4) by
    rw[mayM,HA.out,←hd16,←hd4];have e1:decide (l.length≤16)=decide ((l.length:Int)≤16):=by rw[Bool.eq_iff_iff];simp;omega
    have e2:decide (Fu.sizes l≤400)=decide ((Fu.sizes l:Int)≤400):=by rw[Bool.eq_iff_iff];simp;omega
    rw[e1,e2];rfl)
   cases d16<;>cases d4;all_goals
    go_wp2_with fail;refine(unless_any _ _).mono ?_;rintro e w1 ⟨he,rfl⟩;rcases he.or with⟨hb,rfl⟩|⟨hb,rfl⟩
    ·first
      |exact Bool.noConfusion hb
      |(go_wp2_with fail;go_end0;exact⟨lookR_t' HM.out,HF.out⟩)
    ·first
      |exact Bool.noConfusion hb
      |(go_wp2_with fail;exact⟨rfl,lookR_f HM.out,HF.out⟩)
theorem guard_catch (b:Nat) (old:Value) (T:TypeId) (w:World) (hb:w.heap[b]? =some (.cells #[old] T (0,0))):
  CallsD Tryz.prog 111 #[.pointer (some ⟨b,0,none⟩)] (.panicking [{v:=.iface 156 (.agg #[.nilIface]),recovered:=false}]) w fun e u' w'=>
   e= .returned (.tuple #[])∧u'= .panicking [{v:=.iface 156 (.agg #[.nilIface]),recovered:=true}]∧w'.heap[b]? =some (.cells #[.iface 32 (.int .i64 2)] T (0,0))∧Fr (fun k=>k=b) w w':=by
 have hta:∀w:World,(Instr.typeAssert (.iface 156 (.agg #[.nilIface])) 20 156 true).run Tryz.prog w= .ok (.tuple #[.agg #[.nilIface],.bool true]) w:=fun w=>by kernel_rfl
 have hmi:∀w:World,(Instr.makeInterface 32 (.int .i64 2)).run Tryz.prog w= .ok (.iface 32 (.int .i64 2)) w:=fun w=>by kernel_rfl
 have hf1:=(Fr.refl (fun k=>k=b) w).alloc (.cells #[.nilIface] 156);have hb1:=Zb hb ((Zf w).alloc (.cells #[.nilIface] 156)) (non _);have hb2:=blk_set hb1 0 .nilIface;have hb3:=blk_set hb2 0 (.iface 32 (.int .i64 2));have hf3:=(hf1.setCell ⟨b,0,none⟩ .nilIface (.inl rfl)).setCell ⟨b,0,none⟩ (.iface 32 (.int .i64 2)) (.inl rfl);have c1:=(Zc hb1).1 0 _ rfl;have z1:=(Zc hb1).2 0;have c2:=(Zc hb2).1 0 _ rfl;have z2:=(Zc hb2).2 0;refine callsD_of_wpS Tryz.func111 rfl fun c₀ cs hu=>?_;apply wpS_seq;apply wpS_region;simp[wpOpsS,go_sem,recoverD,hu,Tryz.ntmps111,Exit.thenS];refine wpS_of_wp ?_;go_wp2_with fail;refine⟨rfl,_,rfl,_,by simp[results,Tryz.results111,go_sem],rfl,rfl,?_,?_⟩
 ·simpa using hb3
 ·exact hf3
theorem guard_idle (b:Nat) (w:World):
  CallsD Tryz.prog 111 #[.pointer (some ⟨b,0,none⟩)] .returning w fun e u' w'=>e= .returned (.tuple #[])∧u'= .returning∧w=w':=by
 refine callsD_of_wpS Tryz.func111 rfl fun c₀ cs hu=>?_;apply wpS_seq;apply wpS_region;simp[wpOpsS,go_sem,recoverD,hu,Tryz.ntmps111,Exit.thenS];refine wpS_of_wp ?_;go_wp2_with fail;refine⟨rfl,_,?_,_,by simp[results,Tryz.results111,go_sem],rfl,rfl,rfl⟩;rw[←hu]
theorem guard_any (l:List Fu) (ok:Nat→Prop) (A:Option Addr) (c bb:Nat) (w:World) (hbb:w.heap[bb]? =some (.cells #[.slice A l.length c] 24 (0,0))) (hr:RdRows ok w 5 A 0 (l.map Fu.d)) (hc:l.length*96≤reach) (hs:Fu.sizes l≤1099511627776):
  Calls Tryz.prog 75 #[.func (.func 76) #[] #[.pointer (some ⟨bb,0,none⟩)]] w fun e w'=>e= .returned (if mayM l then .nilIface else .iface 32 (.int .i64 2))∧Fr Non w w':=by
 have hmf:∀(fn:Fn) (first cap:Array Value) (w:World),(Instr.makeFunc fn first cap).run Tryz.prog w= .ok (.func fn first cap) w:=fun _ _ _ _=>rfl;have hf0:=(Zf w).alloc (.cells #[.nilIface] 30);have hb0:=Zb hbb hf0 (non _);have hbn:=blk_new w #[.nilIface] 30;have HC:=Zh (pcheck1_any l ok A c bb _ hb0 (hr.fr hf0 (fun _ _=>non _) (fun _ h=>h)) hc hs);obtain⟨r,hR⟩:∃r:Value,(if mayM l then .nilIface else .iface 32 (.int .i64 2))=r:=⟨_,rfl⟩;rw[hR];have HRR:=Zh hR;clear hR;go_enter_defers Tryz.func75,Tryz.ntmps75;go_wp2_with fail;refine HC.out.mono ?_;rintro e w2 ⟨he,hf2⟩;have hb2:=Zb hbn hf2 (non _);have hff:=box_fr hf2;have hNon:∀w3,Fr (fun k=>k=w.heap.size) w2 w3→Fr Non w w3:=fun w3 h3=>hff.then h3 fun k hk e=>by omega
 have c2:=(Zc hb2).1 0 _ rfl;have z2:=(Zc hb2).2 0;cases hm:mayM l with
 |true=>
  rw[hm] at he;obtain rfl:=he.t;clear he;have HMM:=Zh hm;clear hm;have hb3:=blk_set hb2 0 .nilIface;go_wp2_with fail;refine leaves_cons (f:=111) (args:=#[.pointer (some ⟨w.heap.size,0,none⟩)]) (by simp) (by simp[go_sem]) ?_;refine(guard_idle w.heap.size _).mono ?_;rintro e u' w'' ⟨rfl,rfl,rfl⟩;have c3:=(Zc hb3).1 0 _ rfl;have HR:=Zh (hNon _ ((Fr.refl _ w2).setCell ⟨w.heap.size,0,none⟩ .nilIface (.inl rfl)));simp[Leaves,settle,results,Tryz.results75,go_sem,c3];exact⟨by rw[←HRR.out,HMM.out];rfl,HR.out⟩
 |false=>
  rw[hm] at he;obtain rfl:=he.f;clear he;have HMM:=Zh hm;clear hm;go_wp2_with fail;refine leaves_cons (f:=111) (args:=#[.pointer (some ⟨w.heap.size,0,none⟩)]) (by simp) (by simp[go_sem]) ?_;refine(guard_catch w.heap.size _ _ _ hb2).mono ?_;rintro e u' w'' ⟨rfl,rfl,hb3,hf3⟩;have c3:=(Zc hb3).1 0 _ rfl;have HR:=Zh (hNon _ hf3);clear hf3;simp[Leaves,settle,results,Tryz.results75,go_sem,c3];exact⟨by rw[←HRR.out,HMM.out];rfl,HR.out⟩
theorem pcheck_any (l:List Fu) (ok:Nat→Prop) (A:Option Addr) (c:Nat) (w:World) (hr:RdRows ok w 5 A 0 (l.map Fu.d)) (hc:l.length*96≤reach) (hs:Fu.sizes l≤1099511627776):
  Calls Tryz.prog 48 #[.agg #[.slice A l.length c]] w fun e w'=>e= .returned (.int .i64 (if mayM l then 0 else 2))∧Fr Non w w':=by
 have hmf:∀(fn:Fn) (first cap:Array Value) (w:World),(Instr.makeFunc fn first cap).run Tryz.prog w= .ok (.func fn first cap) w:=fun _ _ _ _=>rfl;have hf0:=(Zf w).alloc (.cells #[.slice A l.length c] 24);have HC:=Zh (guard_any l ok A c w.heap.size _ (blk_new w #[.slice A l.length c] 24) (hr.fr hf0 (fun _ _=>non _) (fun _ h=>h)) hc hs);obtain⟨r,hR⟩:∃r:Int,(if mayM l then 0 else 2)=r:=⟨_,rfl⟩;rw[hR];have HRR:=Zh hR;clear hR;go_enter Tryz.func48,Tryz.ntmps48;go_wp2_with fail;refine HC.out.mono ?_;rintro e w2 ⟨rfl,hf2⟩;have HF:=Zh (box_fr hf2);clear hf2;cases hm:mayM l with
 |true=>
  have HM:=Zh hm;clear hm;simp only[if_true];go_wp2_with fail;go_ret;exact⟨ret_int (by rw[←HRR.out,HM.out];rfl),HF.out⟩
 |false=>
  have HM:=Zh hm;clear hm;simp only[Bool.false_eq_true,if_false];go_wp2_with fail;go_ret;exact⟨ret_int (by rw[←HRR.out,HM.out];rfl),HF.out⟩
theorem check_catch (b:Nat) (old:Value) (T:TypeId) (x y:Int) (w:World) (hb:w.heap[b]? =some (.cells #[old] T (0,0))):
  CallsD Tryz.prog 49 #[.pointer (some ⟨b,0,none⟩)] (.panicking [{v:=faultV x y,recovered:=false}]) w fun e u' w'=>
   e= .returned (.tuple #[])∧u'= .panicking [{v:=faultV x y,recovered:=true}]∧w'.heap[b]? =some (.cells #[faultV x y] T (0,0))∧Fr (fun k=>k=b) w w':=by
 have hta:∀w:World,(Instr.typeAssert (.iface 34 (.agg #[.int .i64 x,.int .i64 y])) 20 34 true).run Tryz.prog w= .ok (.tuple #[.agg #[.int .i64 x,.int .i64 y],.bool true]) w:=fun w=>by kernel_rfl
 have hmi:∀w:World,(Instr.makeInterface 34 (.agg #[.int .i64 x,.int .i64 y])).run Tryz.prog w= .ok (.iface 34 (.agg #[.int .i64 x,.int .i64 y])) w:=fun w=>by kernel_rfl
 have hf1:=(Fr.refl (fun k=>k=b) w).alloc (.cells #[.int .i64 x,.int .i64 y] 34);have hb1:=Zb hb ((Zf w).alloc (.cells #[.int .i64 x,.int .i64 y] 34)) (non _);have hb2:=blk_set hb1 0 (faultV x y);have hf3:=hf1.setCell ⟨b,0,none⟩ (faultV x y) (.inl rfl);have c1:=(Zc hb1).1 0 _ rfl;have z1:=(Zc hb1).2 0;refine callsD_of_wpS Tryz.func49 rfl fun c₀ cs hu=>?_;apply wpS_seq;apply wpS_region;unfold faultV at*;simp[wpOpsS,go_sem,recoverD,hu,Tryz.ntmps49,Exit.thenS];refine wpS_of_wp ?_;go_wp2_with fail;refine⟨rfl,_,rfl,_,by simp[results,Tryz.results49,go_sem],rfl,rfl,?_,?_⟩
 ·simpa using hb2
 ·exact hf3
theorem check_idle (b:Nat) (w:World):
  CallsD Tryz.prog 49 #[.pointer (some ⟨b,0,none⟩)] .returning w fun e u' w'=>e= .returned (.tuple #[])∧u'= .returning∧w=w':=by
 refine callsD_of_wpS Tryz.func49 rfl fun c₀ cs hu=>?_;apply wpS_seq;apply wpS_region;simp[wpOpsS,go_sem,recoverD,hu,Tryz.ntmps49,Exit.thenS];refine wpS_of_wp ?_;go_wp2_with fail;refine⟨rfl,_,?_,_,by simp[results,Tryz.results49,go_sem],rfl,rfl,rfl⟩;rw[←hu]
theorem scFun_n (P:List Fu) (F:Nat) (f:Fu) (n m:Int) (h:scFun P F f n= .ok m):n≤m∧m≤n+St.sizes f.body+2:=by
 unfold scFun at h;split at h
 ·cases h
 split at h
 ·cases h
 rename_i a ha;have h1:=scParams_n _ _ _ ha;split at h
 ·cases h
 rename_i a1 aw hb;have h2:=scStmts_n P F _ _ _ _ _ hb;split at h
 ·cases h;simp only at h1;omega
 ·cases h
theorem scWalk_n (P:List Fu):∀(i:Nat) (n:Int),i≤P.length→scWalk P i= .ok n→0≤n∧n≤2*i+Fu.sizes (P.take i)
 |0,n,_,h=>by cases h;simp[Fu.sizes]
 |i+1,n,hi,h=>by
  rw[scWalk] at h;split at h
  ·cases h
  rename_i m hm;have h1:=scWalk_n P i m (by omega) hm;have h2:=scFun_n _ _ _ _ _ h;have h3:=fsizes_take P i (by omega);rw[List.getD_eq_getElem?_getD,List.getElem?_eq_getElem (by omega),Option.getD_some] at h2
  push_cast
  omega
theorem scWalk_mono (P:List Fu) (x:Int×Int):∀(i j:Nat),i≤j→scWalk P i= .error x→scWalk P j= .error x
 |i,j,hij,h=>by
  induction hij with
  |refl=>exact h
  |step _ ih=>rw[scWalk,ih]
def scCheckV (P:List Fu):Value:=if mayM P then(match scWalk P P.length with
 | .error x=>faultV x.1 x.2
 | .ok _=>.nilIface) else faultV 0 2
theorem scheck_any (P:List Fu) (ok:Nat→Prop) (A:Option Addr) (c:Nat) (w:World) (hr:RdRows ok w 5 A 0 (P.map Fu.d)) (hc:P.length*96≤reach) (hpc:P.length≤c) (hs:Fu.sizes P≤1099511620000) (hok:∀q,ok q→q<w.heap.size):
  Calls Tryz.prog 21 #[.agg #[.slice A P.length c]] w fun e w'=>e= .returned (scCheckV P)∧Fr Non w w':=by
 have hlen:P.length≤140737488355328:=by unfold reach at hc;omega
 have hmf:∀(fn:Fn) (first cap:Array Value) (w:World),(Instr.makeFunc fn first cap).run Tryz.prog w= .ok (.func fn first cap) w:=fun _ _ _ _=>rfl;have hmi:∀w:World,(Instr.makeInterface 34 (.agg #[.int .i64 0,.int .i64 2])).run Tryz.prog w= .ok (.iface 34 (.agg #[.int .i64 0,.int .i64 2])) w:=fun w=>by kernel_rfl
 obtain⟨W1,HW1⟩:∃W1,W1=(w.alloc (.cells #[.slice A P.length c] 24)).alloc (.cells #[.nilIface] 30):=⟨_,rfl⟩;have hfw:Fr Non w W1:=by rw[HW1];exact((Zf w).alloc _).alloc _
 have hbp:W1.heap[w.heap.size]? =some (.cells #[.slice A P.length c] 24 (0,0)):=by rw[HW1];exact blk_old (blk_new _ _ _)
 have hbr:W1.heap[w.heap.size+1]? =some (.cells #[.nilIface] 30 (0,0)):=by rw[HW1];exact blk_new' (by simp) _ _
 have HC:=Zh (pcheck_any P ok A c W1 (hr.fr hfw (fun _ _=>non _) (fun _ h=>h)) hc (by omega));have HR:=Zh hr;clear hr;have g0:=(Zc hbp).1 0 _ rfl;have HBP:=Zh hbp;clear hbp;have HBR:=Zh hbr;clear hbr;have HFW:=Zh hfw;clear hfw;have HW1L:=Zh HW1;obtain⟨r,hR⟩:∃r:Value,scCheckV P=r:=⟨_,rfl⟩;rw[hR];have HRR:=Zh hR;clear hR;go_enter_defers Tryz.func21,Tryz.ntmps21;go_upto_region 1 with fail;rw[show((w.alloc (.cells #[.slice A P.length c] 24)).alloc (.cells #[.nilIface] 30))=W1 from HW1.symm];clear HW1;go_wp2_with fail;refine HC.out.mono ?_;rintro e w2 ⟨rfl,hf2⟩;have hbr2:=Zb HBR.out hf2 (non _);have c2:=(Zc hbr2).1 0 _ rfl;have z2:=(Zc hbr2).2 0;have hbp2:=Zb HBP.out hf2 (non _);have p2:=(Zc hbp2).1 0 _ rfl;clear g0;cases hm:mayM P with
 |false=>
  have HM:=Zh hm;clear hm;simp only[Bool.false_eq_true,if_false];have hb3:=blk_set hbr2 0 (faultV 0 2);go_wp2_with fail;have c3:=(Zc hb3).1 0 _ rfl;have HF:=Zh (HFW.out.trans hf2);have HFF:=Zh (show Fr Non w (w2.setCell ⟨w.heap.size+1,0,none⟩ (faultV 0 2)) from HF.out.setCell _ _ (.inr (Nat.le_succ _)));unfold faultV at c3 HFF;simp[bodyPostD,Leaves,settle,results,Tryz.results21,go_sem,c3];exact⟨by rw[←HRR.out,scCheckV,HM.out];rfl,HFF.out⟩
 |true=>
  have HM:=Zh hm;clear hm;simp only[if_true];go_upto_region 6 with fail;obtain⟨W3,HW3⟩:∃W3,W3=w2.alloc (.cells #[.slice A P.length c,.int .i64 0,.map none,.map none] 79):=⟨_,rfl⟩;rw[←HW3];have hf3:Fr Non w2 W3:=by rw[HW3];exact(Zf w2).alloc _
  have hbw:W3.heap[w2.heap.size]? =some (.cells #[.slice A P.length c,.int .i64 0,.map none,.map none] 79 (0,0)):=by rw[HW3];exact blk_new _ _ _
  clear HW3 c2 z2 p2;have hbr3:=Zb hbr2 hf3 (non _);have hbp3:=Zb hbp2 hf3 (non _);have p3:=(Zc hbp3).1 0 _ rfl;have hz12:w.heap.size≤W1.heap.size:=HFW.out.size;have hz2:W1.heap.size≤w2.heap.size:=hf2.size;have hrl:=blk_lt HBR.out;have HF3:=Zh ((HFW.out.trans hf2).trans hf3);clear hf2 hf3;have HBW:=Zh hbw;clear hbw;have HBR3:=Zh hbr3;clear hbr3 hbr2 hbp2 hbp3;go_wp2_with fail
  go_loopw [20] (fun i wr=>∃(j:Nat) (n:Int) (v2 v3:Value),i= .int .i64 j∧j≤P.length∧scWalk P j= .ok n∧wr.heap[w2.heap.size]? =some (.cells #[.slice A P.length c,.int .i64 n,v2,v3] 79 (0,0))∧Fr (fun k=>k=w2.heap.size) W3 wr) (fun i _=>P.length-(intOf i).toNat)
  case atStart=>exact⟨0,0,_,_,rfl,by omega,rfl,HBW.out,Fr.refl _ _⟩
  case round=>
   obtain⟨j,n,v2,v3,rfl,hj,hwk,hbw,hfr⟩:=hrel;have HWK:=Zh hwk;clear hwk;have HNB:=Zh (scWalk_n P j n hj HWK.out);have HBJ:=Zh hbw;clear hbw;have hbr4:=Zb HBR3.out hfr (by omega);have HFJ:=Zh (HF3.out.then hfr fun k hk e=>by omega);have HFW3:=Zh hfr;clear hfr;by_cases hlt:j<P.length
   ·have hokF:okF P[j]=true:=by
     have h:=HM.out;simp only[mayM,Bool.and_eq_true,List.all_eq_true] at h;exact h.1 _ (List.getElem_mem hlt)
    have HSF:=Zh (scfun_any w.heap.size w2.heap.size ok A c P j hlt wr n v2 v3 HBJ.out (by omega) ⟨HR.out.fr HFJ.out (fun _ _=>non _) (fun _ h=>h),hc,hlt,hpc,hok⟩ hokF (HNB.out.1) (by have:=HNB.out.2;have:=fsizes_take P j hlt;have:=fsizes_take_le P (j+1);have h16:=HM.out;simp only[mayM,Bool.and_eq_true,decide_eq_true_eq] at h16;omega));clear hokF;go_wp2_with fail;refine HSF.out.mono ?_;intro e w4 he;unfold FnR at he;have HST:=Zh (show scWalk P (j+1)=scFun P j P[j] n by rw[scWalk,HWK.out];simp only;rw[List.getD_eq_getElem?_getD,List.getElem?_eq_getElem hlt,Option.getD_some]);cases hf:scFun P j P[j] n with
    |error x=>
     rw[hf] at he;simp only at he;obtain⟨rfl,hf4⟩:=he;have HX:=Zh (scWalk_mono P x (j+1) P.length (by omega) (HST.out.trans hf));clear hf;have hbr5:=Zb hbr4 hf4 (by omega);have HF5:=Zh (HFJ.out.then hf4 fun k hk e=>by omega);clear hf4 hbr4;go_wp2_with fail;refine leaves_cons (f:=49) (args:=#[.pointer (some ⟨w.heap.size+1,0,none⟩)]) (by simp) (by simp[go_sem]) ?_;refine(check_catch (w.heap.size+1) _ _ x.1 x.2 _ hbr5).mono ?_;rintro e u' w'' ⟨rfl,rfl,hb6,hf6⟩;have c6:=(Zc hb6).1 0 _ rfl;have HF6:=Zh (HF5.out.then hf6 fun k hk e=>by omega);clear hf6;simp[Leaves,settle,results,Tryz.results21,go_sem,c6];exact⟨by rw[←HRR.out,scCheckV,HM.out,HX.out];rfl,HF6.out⟩
    |ok m=>
     rw[hf] at he;simp only at he;obtain⟨rfl,hf4,v2',v3',hb4⟩:=he;have HX:=Zh (HST.out.trans hf);clear hf hbr4;have HF4:=Zh hf4;clear hf4;have HB4:=Zh hb4;clear hb4;go_wp2_with fail;go_roundw
     case rel=>exact⟨j+1,m,v2',v3',by go_num,by omega,HX.out,HB4.out,HFW3.out.trans HF4.out⟩
     case measure=>simp[intOf];omega
   ·have hje:j=P.length:=by omega
    subst hje;have c4:=(Zc hbr4).1 0 _ rfl;have z4:=(Zc hbr4).2 0;have hb5:=blk_set hbr4 0 .nilIface;have HF5:=Zh (show Fr Non w (wr.setCell ⟨w.heap.size+1,0,none⟩ .nilIface) from HFJ.out.setCell _ _ (.inr (Nat.le_succ _)));go_wp2_with fail;refine leaves_cons (f:=49) (args:=#[.pointer (some ⟨w.heap.size+1,0,none⟩)]) (by simp) (by simp[go_sem]) ?_;refine(check_idle (w.heap.size+1) _).mono ?_;rintro e u' w'' ⟨rfl,rfl,rfl⟩;have c6:=(Zc hb5).1 0 _ rfl;simp[Leaves,settle,results,Tryz.results21,go_sem,c6];exact⟨by rw[←HRR.out,scCheckV,HM.out,HWK.out];rfl,HF5.out⟩
section
open Go.Extern.Stop Go.Stop Go.Extern
abbrev hdl (t:Nat):Value:=.pointer (some ⟨1,t,none⟩)
abbrev rty (t:Nat):Value:=.iface 131 (.agg #[hdl t])
abbrev FT:Nat:=34
abbrev PT:Nat:=66
theorem fx1 (t:Addr) (w:World):(ReflectliteValue.unpack (.iface PT (.pointer (some t)))).run Tryz.prog w
 = .ok (.agg #[hdl PT,.pointer (some ⟨w.heap.size,0,none⟩),.int .u64 150]) (w.alloc (.cells #[.pointer (some t)] PT)):=by kernel_rfl
theorem fx2 (a:Addr) (w:World):(ReflectliteValue.methodAny (ReflectliteValue.valueError "reflectlite.Value.Type" 0) (fun t _ _ _=>ReflectliteType.toType t) #[.agg #[hdl PT,.pointer (some a),.int .u64 150]]).run Tryz.prog w
 = .ok (rty PT) w:=by kernel_rfl
theorem fx3 (h:Value) (w:World):(Go.method 355 131 (.agg #[h]) "Kind").run Tryz.prog w= .ok (207,h) w:=by kernel_rfl
theorem fx4 (w:World):((ReflectliteType.abiMethod fun t=>(fun a:Nat=>Value.int IntKind.u8 (a:Int))<$>Rtype.kind t) #[hdl PT]).run Tryz.prog w= .ok (.int .u8 22) w:=by kernel_rfl
theorem fx5 (w:World):((ReflectliteType.abiMethod fun t=>(fun a:Nat=>Value.int IntKind.u8 (a:Int))<$>Rtype.kind t) #[hdl FT]).run Tryz.prog w= .ok (.int .u8 25) w:=by kernel_rfl
theorem rlm (z:Sem Value) (f:TypeId→Addr→Nat→Nat→Sem Value) (v:Value):
 ReflectliteValue.method z f #[v]=(do match ←ReflectliteValue.parts v with|none=>z|some (t,a,fl)=>f t a fl (fl%32)):=rfl
theorem fx6 (a:Addr) (w:World):(ReflectliteValue.parts (.agg #[hdl PT,.pointer (some a),.int .u64 150])).run Tryz.prog w= .ok (some (PT,a,150)) w:=by kernel_rfl
theorem fx7 (a p:Addr) (W:World) (ha:W.cell? a=some (.pointer (some p))):
  (ReflectliteValue.method (ReflectliteValue.valueError "reflectlite.Value.IsNil" 0) ReflectliteValue.isNil #[.agg #[hdl PT,.pointer (some a),.int .u64 150]]).run Tryz.prog W= .ok (.bool false) W:=by
 rw[rlm];simp only[Sem.run_bind,fx6,Result.andThen];simp[ReflectliteValue.isNil,loadVar,isAgg,underlying,Tryz.underlying66,ha,Result.andThen]
theorem fx8 (h:Value) (w:World):(Go.method 355 131 (.agg #[h]) "Elem").run Tryz.prog w= .ok (219,.agg #[h]) w:=by kernel_rfl
theorem fx9 (h:Value) (w:World):(Go.method 355 131 (.agg #[h]) "Implements").run Tryz.prog w= .ok (220,.agg #[h]) w:=by kernel_rfl
theorem fx10 (h:Value) (w:World):(Go.method 355 131 (.agg #[h]) "AssignableTo").run Tryz.prog w= .ok (217,.agg #[h]) w:=by kernel_rfl
theorem fx10c (h:Value) (w:World):(Go.method 355 131 (.agg #[h]) "Comparable").run Tryz.prog w= .ok (218,.agg #[h]) w:=by kernel_rfl
theorem fx11 (w:World):(ReflectliteType.method ReflectliteType.elem #[.agg #[hdl PT]]).run Tryz.prog w= .ok (rty FT) w:=by kernel_rfl
theorem fx12 (w:World):(ReflectliteType.relation "Implements" ReflectliteType.implements_ #[.agg #[hdl FT],rty 30]).run Tryz.prog w= .ok (.bool true) w:=by kernel_rfl
theorem fx13 (v:Value) (w:World):(ReflectliteType.typeOf #[.iface FT v]).run Tryz.prog w= .ok (rty FT) w:=by kernel_rfl
theorem fx13e (v:Value) (w:World):(ReflectliteType.typeOf #[.iface 32 v]).run Tryz.prog w= .ok (rty 32) w:=by kernel_rfl
theorem fx14 (w:World):(ReflectliteType.relation "AssignableTo" ReflectliteType.assignableTo #[.agg #[hdl FT],rty FT]).run Tryz.prog w= .ok (.bool true) w:=by kernel_rfl
theorem fx15 (x y:Int) (w:World):(ReflectliteValue.unpack (.iface FT (.agg #[.int .i64 x,.int .i64 y]))).run Tryz.prog w
 = .ok (.agg #[hdl FT,.pointer (some ⟨w.heap.size,0,none⟩),.int .u64 153]) (w.alloc (.cells #[.int .i64 x,.int .i64 y] FT)):=by kernel_rfl
theorem fx16 (w:World):(Rtype.elem? PT).run Tryz.prog w= .ok (some FT) w:=by kernel_rfl
theorem fx17 (p:Addr) (w:World):(ReflectliteValue.mk FT p ReflectliteValue.flagAddr).run Tryz.prog w= .ok (.agg #[hdl FT,.pointer (some p),.int .u64 409]) w:=by kernel_rfl
theorem fx18 (a p:Addr) (W:World) (ha:W.cell? a=some (.pointer (some p))):
  (ReflectliteValue.method (ReflectliteValue.valueError "reflectlite.Value.Elem" 0) ReflectliteValue.elem #[.agg #[hdl PT,.pointer (some a),.int .u64 150]]).run Tryz.prog W
    = .ok (.agg #[hdl FT,.pointer (some p),.int .u64 409]) W:=by
 rw[rlm];simp only[Sem.run_bind,fx6,Result.andThen];simp[ReflectliteValue.elem,loadVar,isAgg,underlying,Tryz.underlying66,ha,Result.andThen,fx16,fx17]
theorem rls (v x:Value):ReflectliteValue.set #[v,x]=(do
 let (some (dst,a,fl),some (src,b,_)):=(←ReflectliteValue.parts v,←ReflectliteValue.parts x)
  |unsupported (.noEntry "extern/(internal/reflectlite.Value).Set.zeroValue")
 if fl / ReflectliteValue.flagAddr%2==0 then unsupported (.noEntry "extern/(internal/reflectlite.Value).Set.unaddressable")
 let val ←loadVar src b
 if ←Rtype.directlyAssignable dst src then storeVar dst a val
 else if ←Rtype.implements dst src then
  if(←Rtype.kind src)==20 then
   match val with
   | .nilIface=>unsupported (.noEntry "extern/reflectlite: a nil value of one interface type handed on as a value of another")
   |_=>storeVar dst a val
  else storeVar dst a (.iface src val)
 else panicString ("reflectlite.Set: value of type "++(←Rtype.spelt src)++ " is not assignable to type "++(←Rtype.spelt dst))
 pure (.tuple #[])):=rfl
theorem fx19 (a:Addr) (w:World):(ReflectliteValue.parts (.agg #[hdl FT,.pointer (some a),.int .u64 409])).run Tryz.prog w= .ok (some (FT,a,409)) w:=by kernel_rfl
theorem fx20 (a:Addr) (w:World):(ReflectliteValue.parts (.agg #[hdl FT,.pointer (some a),.int .u64 153])).run Tryz.prog w= .ok (some (FT,a,153)) w:=by kernel_rfl
theorem fx21 (w:World):(Rtype.directlyAssignable FT FT).run Tryz.prog w= .ok true w:=by kernel_rfl
theorem fx23a (b:Nat) (x y:Int) (W:World) (T:TypeId) (hb:W.heap[b]? =some (.cells #[.int .i64 x,.int .i64 y] T (0,0))):
  (loadVar FT ⟨b,0,none⟩).run Tryz.prog W= .ok (.agg #[.int .i64 x,.int .i64 y]) W:=by
 have c0:=(Zc hb).1 0 _ rfl;have c1:=(Zc hb).1 1 _ rfl;have hs:∀w:World,(sizeOf FT).run Tryz.prog w= .ok 2 w:=fun w=>by kernel_rfl
 simp[loadVar,isAgg,underlying,Tryz.underlying34,c0,c1,Result.andThen,hs,loadCells,loadCellsFrom,Addr.add]
theorem fx23b (ta:Nat) (x y x0 y0:Int) (W:World) (ht:W.heap[ta]? =some (.cells #[.int .i64 x0,.int .i64 y0] FT (0,0))):
  (storeVar FT ⟨ta,0,none⟩ (.agg #[.int .i64 x,.int .i64 y])).run Tryz.prog W= .ok () ((W.setCell ⟨ta,0,none⟩ (.int .i64 x)).setCell ⟨ta,1,none⟩ (.int .i64 y)):=by
 have t0:=(Zc ht).1 0 _ rfl;have z0:=(Zc ht).2 0;have ht1:=blk_set ht 0 (.int .i64 x);have t1:=(Zc ht1).1 1 _ rfl;have z1:=(Zc ht1).2 1;have hs:∀w:World,(sizeOf FT).run Tryz.prog w= .ok 2 w:=fun w=>by kernel_rfl
 simp[storeVar,Value.cells,storeCells,Addr.add,hs,Result.andThen];rw[run_store Tryz.prog W ⟨ta,0,none⟩ _ _ (by rfl)];simp[t0,z0];rw[run_store Tryz.prog _ ⟨ta,1,none⟩ _ _ (by rfl)];simp[t1,z1]
theorem fx23 (ta b:Nat) (x y x0 y0:Int) (W:World) (T:TypeId) (hb:W.heap[b]? =some (.cells #[.int .i64 x,.int .i64 y] T (0,0))) (ht:W.heap[ta]? =some (.cells #[.int .i64 x0,.int .i64 y0] FT (0,0))):
  (ReflectliteValue.set #[.agg #[hdl FT,.pointer (some ⟨ta,0,none⟩),.int .u64 409],.agg #[hdl FT,.pointer (some ⟨b,0,none⟩),.int .u64 153]]).run Tryz.prog W
    = .ok (.tuple #[]) ((W.setCell ⟨ta,0,none⟩ (.int .i64 x)).setCell ⟨ta,1,none⟩ (.int .i64 y)):=by
 have h1:=fx23a b x y W T hb;have h2:=fx23b ta x y x0 y0 W ht;rw[rls];simp only[Sem.run_bind,fx19,fx20,Result.andThen];simp[ReflectliteValue.flagAddr,h1,h2,Result.andThen,fx21]
def asW (w:World) (t:Nat) (x y:Int):World:=(((w.alloc (.cells #[.pointer (some ⟨t,0,none⟩)] PT)).alloc (.cells #[hdl PT,.pointer (some ⟨w.heap.size,0,none⟩),.int .u64 150] 87)).alloc (.cells #[hdl PT,.pointer (some ⟨w.heap.size,0,none⟩),.int .u64 150] 87)).alloc (.cells #[.int .i64 x,.int .i64 y] FT)
theorem as_hit (t:Nat) (x y x0 y0:Int) (w:World) (hg:w.cell? ⟨0,0,none⟩=some (rty 30)) (ht0:w.heap[t]? =some (.cells #[.int .i64 x0,.int .i64 y0] FT (0,0))):
  Calls Tryz.prog 39 #[.iface FT (.agg #[.int .i64 x,.int .i64 y]),.iface PT (.pointer (some ⟨t,0,none⟩))] w fun ev w'=>ev= .returned (.bool true)∧w'=((asW w t x y).setCell ⟨t,0,none⟩ (.int .i64 x)).setCell ⟨t,1,none⟩ (.int .i64 y):=by
 unfold asW;have h6:=@run_callFunc_extern Tryz.prog 57 _ (fun args=>ReflectliteValue.unpack (args.getD 0 (.tuple #[]))) Tryz.func57 (by kernel_rfl) (by kernel_rfl) (by kernel_rfl) (by kernel_rfl);have h7:=@run_callFunc_extern Tryz.prog 58 _ (ReflectliteValue.methodAny (ReflectliteValue.valueError "reflectlite.Value.Type" 0) (fun t _ _ _=>ReflectliteType.toType t)) Tryz.func58 (by kernel_rfl) (by kernel_rfl) (by kernel_rfl) (by kernel_rfl);have h8:=@run_callFunc_extern Tryz.prog 59 _ (ReflectliteValue.method (ReflectliteValue.valueError "reflectlite.Value.IsNil" 0) ReflectliteValue.isNil) Tryz.func59 (by kernel_rfl) (by kernel_rfl) (by kernel_rfl) (by kernel_rfl);have h27:=@run_callFunc_extern Tryz.prog 207 _ (ReflectliteType.abiMethod fun t=>do pure (.int .u8 (←Rtype.kind t))) Tryz.func207 (by kernel_rfl) (by kernel_rfl) (by kernel_rfl) (by kernel_rfl);have h37:=@run_callFunc_extern Tryz.prog 219 _ (ReflectliteType.method ReflectliteType.elem) Tryz.func219 (by kernel_rfl) (by kernel_rfl) (by kernel_rfl) (by kernel_rfl);have h38:=@run_callFunc_extern Tryz.prog 220 _ (ReflectliteType.relation "Implements" ReflectliteType.implements_) Tryz.func220 (by kernel_rfl) (by kernel_rfl) (by kernel_rfl) (by kernel_rfl);have h10:=@run_callFunc_extern Tryz.prog 61 _ ReflectliteType.typeOf Tryz.func61 (by kernel_rfl) (by kernel_rfl) (by kernel_rfl) (by kernel_rfl);have h35:=@run_callFunc_extern Tryz.prog 217 _ (ReflectliteType.relation "AssignableTo" ReflectliteType.assignableTo) Tryz.func217 (by kernel_rfl) (by kernel_rfl) (by kernel_rfl) (by kernel_rfl);have h11:=@run_callFunc_extern Tryz.prog 86 _ (ReflectliteValue.method (ReflectliteValue.valueError "reflectlite.Value.Elem" 0) ReflectliteValue.elem) Tryz.func86 (by kernel_rfl) (by kernel_rfl) (by kernel_rfl) (by kernel_rfl);have h12:=@run_callFunc_extern Tryz.prog 87 _ ReflectliteValue.set Tryz.func87 (by kernel_rfl) (by kernel_rfl) (by kernel_rfl) (by kernel_rfl);have tO:=fx13;have mA:=fx10;have a25:=fx14;have v25:=fx15;have f6:=fx1;have f7:=fx2;have mK:=fx3;have mE:=fx8;have mI:=fx9;have k27:=fx4;have k25:=fx5;have e27:=fx11;have i25:=fx12;have n8:=fx7 ⟨w.heap.size,0,none⟩ ⟨t,0,none⟩ ((w.alloc (.cells #[.pointer (some ⟨t,0,none⟩)] PT)).alloc (.cells #[hdl PT,.pointer (some ⟨w.heap.size,0,none⟩),.int .u64 150] 87)) (by simp);have hlt:0<w.heap.size:=by
  rcases Nat.eq_zero_or_pos w.heap.size with h0|h
  ·simp[World.cell?,h0] at hg
  ·exact h
 have hg2:((w.alloc (.cells #[.pointer (some ⟨t,0,none⟩)] PT)).alloc (.cells #[hdl PT,.pointer (some ⟨w.heap.size,0,none⟩),.int .u64 150] 87)).cell? ⟨0,0,none⟩=some (rty 30):=by
  rw[World.cell?_alloc_lt _ _ ⟨0,0,none⟩ (by simp),World.cell?_alloc_lt _ _ ⟨0,0,none⟩ hlt];exact hg
 have el:=fx18 ⟨w.heap.size,0,none⟩ ⟨t,0,none⟩ (((w.alloc (.cells #[.pointer (some ⟨t,0,none⟩)] PT)).alloc (.cells #[hdl PT,.pointer (some ⟨w.heap.size,0,none⟩),.int .u64 150] 87)).alloc (.cells #[hdl PT,.pointer (some ⟨w.heap.size,0,none⟩),.int .u64 150] 87)) (by rw[World.cell?_alloc_lt _ _ ⟨w.heap.size,0,none⟩ (by simp;omega)];simp);have st:=fx23 t (w.heap.size+1+1+1) x y x0 y0 ((((w.alloc (.cells #[.pointer (some ⟨t,0,none⟩)] PT)).alloc (.cells #[hdl PT,.pointer (some ⟨w.heap.size,0,none⟩),.int .u64 150] 87)).alloc (.cells #[hdl PT,.pointer (some ⟨w.heap.size,0,none⟩),.int .u64 150] 87)).alloc (.cells #[.int .i64 x,.int .i64 y] FT)) FT
  (blk_new' (by simp) _ _) (blk_old (blk_old (blk_old (blk_old ht0))))
 go_enter Tryz.func39,Tryz.ntmps39
 go_wp2
 refine wp_loop_rounds 1 ?_;rw[rounds_succ]
 go_wp2
 go_ret;exact⟨rfl,rfl⟩
end
section
open Go.ChangeShapes Go.WideShapes
theorem own_knob:ownKnob Tryz.prog.godebug=none:=by kernel_rfl
theorem et_glob:Program.globalNamed Tryz.prog "errors.errorType"=some 0:=by kernel_rfl
theorem et_type:(Tryz.prog.cutTypes.find? (·.1== "internal/reflectlite.rtype")).map (·.2)=some 131:=by kernel_rfl
theorem et_rows:((List.range (355-100)).filter fun t=>Program.rowNamed Tryz.prog t [101,114,114,111,114])=[30]:=by kernel_rfl
theorem et_size:Tryz.prog.types.size=355-100:=by kernel_rfl
theorem handle_of_laid {W:World} (h:laidMetH Tryz.prog [("errors.errorType",Rows.laid_errors_errorType)] W):W.cell? ⟨0,0,none⟩=some (rty 30):=by
 have h':laidMet Tryz.prog [] W∧handlesMet Tryz.prog [("errors.errorType",Rows.laid_errors_errorType)] W:=h;obtain⟨name,u,ty,e1,e2,e3,e4,e5⟩:=h'.2 _ (List.mem_singleton.2 rfl);have en:name=[101,114,114,111,114]:=(Option.some.inj e1).symm;subst en;obtain rfl:=Option.some.inj (et_type.symm.trans e2);have hm:ty∈(List.range (355-100)).filter fun t=>Program.rowNamed Tryz.prog t [101,114,114,111,114]:=List.mem_filter.2 ⟨List.mem_range.2 (by rw[←et_size];exact e3),e4⟩;rw[et_rows] at hm;obtain rfl:=List.mem_singleton.1 hm;have hh:typeHandle Tryz.prog 30=hdl 30:=by kernel_rfl
 rw[hh] at e5;simpa using World.var?_cell et_glob e5 0
noncomputable def laidWorld (os:Os):World:=
 let w0:=World.holding Tryz.prog os ⟨#[],#[],[]⟩
 {w0 with heap:=w0.heap.modify 0 fun
   | .cells _ t frozen=>.cells #[rty 30] t frozen
   |o=>o}
theorem laidWorld_met (os:Os) (args:Array Value):laidMetH Tryz.prog [("errors.errorType",Rows.laid_errors_errorType)] ((laidWorld os).forCall (fun _ _=>0) ⟨#[],args,[]⟩).memory:=
 laidMetH_of_parts (laidMet_nil _ _) (by kernel_rfl)
theorem laidOut:laidOutB Tryz.prog=true:=by kernel_rfl
theorem readProg:Program.readableRec Tryz.prog 24=true:=by kernel_rfl
theorem rowProg:24<Tryz.prog.types.size:=by rw[et_size];omega
theorem Fr.below {w w':World} (h:Fr Non w w'):Below w.heap.size w w':=⟨h.os,h.tape,h.output,h.size,fun k hk=>h.block k hk (fun h=>h)⟩
section
variable {H:Type} {enc:TypeId×Value→H} {P:Program}
theorem post_of_fr {f:Func} {s:ChangeSpec} {apart fresh handsOn again:Bool} {W W':World} {args:Array Value} {v:Value} {ds gs:List (DataW H)} {before:List MemPlace} (hfr:Fr Non W W')
  (hW:DataW.Whole enc P f.params.toList s.vars apart W args.toList ds gs before)
  (hres:∀(b:Nat) (sp:Nat→Bool) (hd:Bool),DataW.TrodAll enc P W' b sp hd f.resultTypes.toList (v.resultList f.resultTypes.size) (s.fn H (ds++gs)).results [])
  (hargs:∀sp:Nat→Bool,(∀p∈before,sp p.block=true)→DataW.TrodAll enc P W' 0 sp true f.params.toList args.toList (s.fn H (ds++gs)).args before)
  (hvars:∀sp:Nat→Bool,DataW.TrodVars enc P W' sp s.vars (s.fn H (ds++gs)).vars [])
  (hok:∀(j:Nat) (t:TypeId) (r:Value),f.resultTypes[j]? =some t→(v.resultList f.resultTypes.size)[j]? =some r→Value.okWide P W' .any 0 t r):
  s.post enc P f apart fresh handsOn again W args v W':=by
 have hold:∀p∈before,(fun b=>decide (b<W.heap.size)) p.block=true:=fun p hp=>by simpa using hW.lt p hp
 have hlt:∀p∈before,p.block<W.heap.size:=hW.lt;refine⟨ds,gs,before,[],before,[],hW,hres _ _ _,hargs _ hold,hvars _,World.keptBut_mono (fun p hp=>⟨hp,?_⟩) (hfr.below.frame (· ∈before)),fun _=>?_⟩
 ·exact Or.inr (Or.inl hp)
 ·obtain⟨_,_,_,_,_,hz,hn⟩:=hW;refine⟨hok,_,_,([]++before)++[],⟨[]++before,[],trodAll_append (hargs _ (fun _ _=>rfl)) (hres _ _ _),hvars _,rfl,?_,?_⟩,?_⟩
  ·intro b off hp;have hp':MemPlace.cell b off∈before:=by simpa using hp
   have hb:b<W.heap.size:=hlt _ hp';have e:W'.frozen? ⟨b,off,none⟩=W.frozen? ⟨b,off,none⟩:=by unfold World.frozen?;simp only;rw[hfr.block b hb (fun h=>h)]
   rw[e];exact hz b off hp'
  ·intro ha;simpa using hn ha
  ·intro p hp _;simpa using hp
end
end
structure Va where
 name:ByteArray
 buf:Bool
 sec:Bool
 mt:Bool
 own:Bool
 set:Bool
 gone:Bool
 lent:Int
 loops:Int
def Va.cells (v:Va):List Value:=[.string v.name,.bool v.buf,.bool v.sec,.bool v.mt,.bool v.own,.bool v.set,.bool v.gone,.int .i64 v.lent,.int .i64 v.loops]
def Va.zero:Va:=⟨⟨#[]⟩,false,false,false,false,false,false,0,0⟩
def Va.v (v:Va):Value:=.agg #[.string v.name,.bool v.buf,.bool v.sec,.bool v.mt,.bool v.own,.bool v.set,.bool v.gone,.int .i64 v.lent,.int .i64 v.loops]
def vasC (l:List Va):List Value:=l.flatMap Va.cells
structure Wk where
 env:List Va
 given:List ByteArray
 n:Int
 fat:Int
 ferr:Int
 loops:Int
 f:Int
structure WkAt (base b:Nat) (PV:Value) (ru:Int) (w:World) (s:Wk) (ve vg:Value):Prop where
 blk:w.heap[b]? =some (.cells #[PV,.int .i64 s.f,ve,vg,.int .i64 s.n,.int .i64 s.fat,.int .i64 s.ferr,.int .i64 ru,.int .i64 s.loops] 112 (0,0))
 env:w.ownsRow base 184 9 ve s.env.length (vasC s.env)
 giv:w.ownsRow base 9 1 vg s.given.length (s.given.map Value.string)
 be:ve.ownBlock≠some b
 bg:vg.ownBlock≠some b
 eg:∀k,ve.ownBlock=some k→vg.ownBlock≠some k
 hb:base≤b
theorem row_set {base:Nat} {e:TypeId} {sz:Nat} {w:World} {g c n:Nat} {xs:List Value} (h:w.ownsRow base e sz (.slice (some ⟨g,0,none⟩) n c) n xs) (i:Nat) (u:Value) (hi:i<xs.length):(w.setCell ⟨g,i,none⟩ u).ownsRow base e sz (.slice (some ⟨g,0,none⟩) n c) n (xs.set i u):=by
 obtain⟨h1,h2⟩:=h;refine⟨by simpa using h1,?_⟩;rcases h2 with⟨h2,_⟩|⟨g',cap,cur,hv,hb,hh,h3,h4,h5,h6⟩
 ·cases h2
 ·cases hv;refine .inr ⟨g,c,cur.setIfInBounds i u,rfl,hb,blk_set hh i u,h3,h4,by simpa using h5,?_⟩;rw[←h6,Array.toList_setIfInBounds,List.take_set]
theorem vas_at:∀(l:List Va) (j:Nat) (hj:j<l.length) (i:Nat),i<9→(vasC l)[j*9+i]? =(l[j].cells)[i]?
 |v::l,0,_,i,hi=>by
  simp only[vasC,List.flatMap_cons,Nat.zero_mul,Nat.zero_add,List.getElem_cons_zero];rw[List.getElem?_append_left (by simpa[Va.cells] using hi)]
 |v::l,j+1,hj,i,hi=>by
  have:=vas_at l j (by simpa using hj) i hi;simp only[vasC,List.flatMap_cons,List.getElem_cons_succ] at this ⊢;rw[List.getElem?_append_right (by simp[Va.cells];omega),←this];congr 1;simp[Va.cells];omega
theorem vas_len (l:List Va):(vasC l).length=l.length*9:=by
 induction l with
 |nil=>rfl
 |cons v l ih=>rw[vasC,List.flatMap_cons,List.length_append,show(l.flatMap Va.cells).length=_ from ih,List.length_cons,Nat.succ_mul,Nat.add_comm];rfl
theorem vas_set:∀(l:List Va) (j:Nat) (x:Va),j<l.length→((((((((((vasC l).set (j*9) (.string x.name)).set (j*9+1) (.bool x.buf)).set (j*9+2) (.bool x.sec)).set (j*9+3) (.bool x.mt)).set (j*9+4) (.bool x.own)).set (j*9+5) (.bool x.set)).set (j*9+6) (.bool x.gone)).set (j*9+7) (.int .i64 x.lent)).set (j*9+8) (.int .i64 x.loops))=vasC (l.set j x)
 |v::l,0,x,_=>rfl
 |v::l,j+1,x,hj=>by
  have ih:=vas_set l j x (by simpa using hj);rw[List.set_cons_succ];show _=v.cells++vasC (l.set j x)
  rw[←ih];show((((((((((v.cells++vasC l).set ((j+1)*9) _).set _ _).set _ _).set _ _).set _ _).set _ _).set _ _).set _ _).set _ _)=_
  have hl:v.cells.length=9:=rfl
  repeat rw[List.set_append_right _ _ (by omega)]
  have e0:(j+1)*9-v.cells.length=j*9:=by omega
  rw[e0];congr 10<;>omega
theorem WkAt.with {base b:Nat} {PV:Value} {ru:Int} {w w':World} {s s':Wk} {ve vg:Value} (h:WkAt base b PV ru w s ve vg) (hf:Fr (fun k=>k=b) w w')
  (hb:w'.heap[b]? =some (.cells #[PV,.int .i64 s'.f,ve,vg,.int .i64 s'.n,.int .i64 s'.fat,.int .i64 s'.ferr,.int .i64 ru,.int .i64 s'.loops] 112 (0,0))) (he:s'.env=s.env) (hg:s'.given=s.given):WkAt base b PV ru w' s' ve vg:=
 ⟨hb,by rw[he];exact row_fr h.env hf (fun k hk e=>h.be (by rw[hk,e])),by rw[hg];exact row_fr h.giv hf (fun k hk e=>h.bg (by rw[hk,e])),h.be,h.bg,h.eg,h.hb⟩
def WS (b:Nat) (ve vg:Value) (k:Nat):Prop:=k=b∨ve.ownBlock=some k∨vg.ownBlock=some k
def Stp (base b:Nat) (PV:Value) (ru:Int) (w:World) (ve vg:Value) (w':World) (s':Wk):Prop:=
 ∃ve' vg',WkAt base b PV ru w' s' ve' vg'∧Fr (WS b ve vg) w w'∧∀k,WS b ve' vg' k→WS b ve vg k∨w.heap.size≤k
theorem WkAt.stay {base b:Nat} {PV:Value} {ru:Int} {w w':World} {s:Wk} {ve vg:Value} (h:WkAt base b PV ru w s ve vg) (hf:Fr Non w w'):WkAt base b PV ru w' s ve vg:=
 ⟨Zb h.blk hf (non _),ownsRow_fr h.env hf (fun _ _=>non _),ownsRow_fr h.giv hf (fun _ _=>non _),h.be,h.bg,h.eg,h.hb⟩
theorem WkAt.lt {base b:Nat} {PV:Value} {ru:Int} {w:World} {s:Wk} {ve vg:Value} (h:WkAt base b PV ru w s ve vg):∀k,WS b ve vg k→base≤k∧k<w.heap.size:=fun k hk=>by
 rcases hk with rfl|hk|hk
 ·exact⟨h.hb,blk_lt h.blk⟩
 ·exact h.env.lt k hk
 ·exact h.giv.lt k hk
theorem Stp.then {base b:Nat} {PV:Value} {ru:Int} {w w1 w2:World} {s':Wk} {ve vg ve1 vg1:Value} (hf:Fr (WS b ve vg) w w1) (hn:∀k,WS b ve1 vg1 k→WS b ve vg k∨w.heap.size≤k) (h:Stp base b PV ru w1 ve1 vg1 w2 s'):Stp base b PV ru w ve vg w2 s':=by
 obtain⟨ve2,vg2,h1,h2,h3⟩:=h;refine⟨ve2,vg2,h1,⟨h2.os.trans hf.os,h2.tape.trans hf.tape,h2.output.trans hf.output,Nat.le_trans hf.size h2.size,fun k hk hs=>?_⟩,fun k hk=>?_⟩
 ·rw[h2.block k (Nat.lt_of_lt_of_le hk hf.size) fun h=>?_,hf.block k hk hs];rcases hn k h with h|h
  ·exact hs h
  ·omega
 ·rcases h3 k hk with h|h
  ·exact hn k h
  ·exact .inr (Nat.le_trans hf.size h)
def Wk.fine (s:Wk):Bool:=s.ferr==0
def Wk.bad (ru:Int) (s:Wk) (r:Int) (is:Bool) (e:Int):Wk:=if is&&r==ru&&s.fine then {s with fat:=s.n,ferr:=e} else s
theorem fine_any (base b:Nat) (PV:Value) (ru:Int) (w:World) (s:Wk) (ve vg:Value) (h:WkAt base b PV ru w s ve vg):
  Calls Tryz.prog 68 #[.pointer (some ⟨b,0,none⟩)] w fun e w'=>e= .returned (.bool s.fine)∧w=w':=by
 have b6:=(Zc h.blk).1 6 _ rfl;have H:=Zh h;clear h;go_enter Tryz.func68,Tryz.ntmps68;go_wp2_with fail;go_ret;exact⟨rfl,rfl⟩
theorem bad_any (base b:Nat) (PV:Value) (ru:Int) (w:World) (s:Wk) (ve vg:Value) (r:Int) (is:Bool) (er:Int) (h:WkAt base b PV ru w s ve vg):
  Calls Tryz.prog 136 #[.pointer (some ⟨b,0,none⟩),.int .i64 r,.bool is,.int .i64 er] w fun e w'=>e= .returned (.tuple #[])∧Fr (fun k=>k=b) w w'∧WkAt base b PV ru w' (s.bad ru r is er) ve vg:=by
 have b7:=(Zc h.blk).1 7 _ rfl;have b4:=(Zc h.blk).1 4 _ rfl;have b5:=(Zc h.blk).1 5 _ rfl;have b6:=(Zc h.blk).1 6 _ rfl;have bf:=(Zc h.blk).2;have H:=Zh h;clear h;cases is with
 |false=>
  go_enter Tryz.func136,Tryz.ntmps136;go_wp2_with fail
  go_end0
  exact⟨rfl,Fr.refl _ _,H.out⟩
 |true=>
  by_cases hr:r=ru
  ·have hr':(r==ru)=true:=by simp[hr]
   have HR:=Zh hr';clear hr;go_enter Tryz.func136,Tryz.ntmps136;go_wp2_with fail;refine(fine_any base b PV ru w s ve vg H.out).mono ?_;rintro e w1 ⟨rfl,rfl⟩;generalize hf:s.fine=f;have HF:=Zh hf;clear hf;cases f with
   |false=>
    go_wp2_with fail
    go_end0
    exact⟨rfl,Fr.refl _ _,by rw[Wk.bad,HF.out];simpa using H.out⟩
   |true=>
    go_wp2_with fail
    go_end0
    have hf:Fr (fun k=>k=b) w ((w.setCell ⟨b,5,none⟩ (.int .i64 s.n)).setCell ⟨b,6,none⟩ (.int .i64 er)):=(((Fr.refl (fun k=>k=b) w).setCell ⟨b,5,none⟩ _ (.inl rfl)).setCell ⟨b,6,none⟩ _ (.inl rfl));refine⟨rfl,hf,?_⟩;rw[Wk.bad,HF.out,HR.out];exact H.out.with hf (blk_set (blk_set H.out.blk 5 _) 6 _) rfl rfl
  ·have hr':(r==ru)=false:=by simp[hr]
   have HR:=Zh hr';clear hr;go_enter Tryz.func136,Tryz.ntmps136;go_wp2_with fail
   go_end0
   exact⟨rfl,Fr.refl _ _,by rw[Wk.bad,HR.out];simpa using H.out⟩
theorem strs_at {l:List ByteArray} (j:Nat) (hj:j<l.length):(l.map Value.string)[j]? =some (.string l[j]):=by simp[hj]
theorem in10_any (base e:Nat) (A:Option Addr) (c:Nat) (l:List ByteArray) (s:ByteArray) (w:World) (h:w.ownsRow base e 1 (.slice A l.length c) l.length (l.map Value.string)) (hc:l.length≤140737488355328):
  Calls Tryz.prog 167 #[.slice A l.length c,.string s] w fun e w'=>e= .returned (.bool (inM l s))∧w=w':=by
 have H:=Zh h;clear h;go_enter Tryz.func167,Tryz.ntmps167;go_wp2_with fail
 go_loop [5] (fun i=>∃k:Nat,i= .int .i64 k∧k≤l.length∧∀j,j<k→∀hj:j<l.length,sq l[j] s=false) (fun i=>l.length-(intOf i).toNat)
 case atStart=>exact⟨0,rfl,by omega,fun j hj=>by omega⟩
 case round=>
  obtain⟨k,rfl,hk,hno⟩:=hrel;have HN:=Zh hno;clear hno;by_cases hlt:k<l.length
  ·obtain⟨g,rfl,hg,hcell⟩:=row_at H.out (by omega);have h0:=(hcell k _ (strs_at k hlt)).1;have HC:=Zh hcell;clear hcell;cases hq:sq l[k] s with
   |true=>
    have hq':=hq;rw[←tosq] at hq';have HQ:=Zh hq;clear hq;go_wp2_with fail;go_ret;exact⟨ret_bool (any_true_of k hlt HQ.out).symm,rfl⟩
   |false=>
    have hq':=hq;rw[←tosq] at hq';have HQ:=Zh hq;clear hq;go_wp2_with fail
    go_round
    case rel=>exact⟨k+1,by go_num,by omega,till HN.out fun _=>HQ.out⟩
    case measure=>simp[intOf];omega
  ·go_wp2_with fail;go_ret;exact⟨ret_bool (any_false_of fun j hj=>HN.out j (by omega) hj).symm,rfl⟩
theorem va_cells {w:World} {g:Nat} {l:List Va} (h:∀i u,(vasC l)[i]? =some u→w.cell? ⟨g,i,none⟩=some u∧w.frozen? ⟨g,i,none⟩=false) (k:Nat) (hk:k<l.length):
  (w.cell? ⟨g,k*9,none⟩=some (.string l[k].name)∧w.cell? ⟨g,k*9+1,none⟩=some (.bool l[k].buf)∧w.cell? ⟨g,k*9+2,none⟩=some (.bool l[k].sec)∧w.cell? ⟨g,k*9+3,none⟩=some (.bool l[k].mt)∧
   w.cell? ⟨g,k*9+4,none⟩=some (.bool l[k].own)∧w.cell? ⟨g,k*9+5,none⟩=some (.bool l[k].set)∧w.cell? ⟨g,k*9+6,none⟩=some (.bool l[k].gone)∧w.cell? ⟨g,k*9+7,none⟩=some (.int .i64 l[k].lent)∧
   w.cell? ⟨g,k*9+8,none⟩=some (.int .i64 l[k].loops))∧w.frozen? ⟨g,k*9,none⟩=false∧(∀i,i<9→w.frozen? ⟨g,k*9+i,none⟩=false):=by
 have hx:=fun i hi=>vas_at l k hk i hi;refine⟨⟨(h _ _ (hx 0 (by omega))).1,(h _ _ (hx 1 (by omega))).1,(h _ _ (hx 2 (by omega))).1,(h _ _ (hx 3 (by omega))).1,(h _ _ (hx 4 (by omega))).1,(h _ _ (hx 5 (by omega))).1,(h _ _ (hx 6 (by omega))).1,(h _ _ (hx 7 (by omega))).1,(h _ _ (hx 8 (by omega))).1⟩,(h _ _ (hx 0 (by omega))).2,fun i hi=>?_⟩;have hz:i<(l[k].cells).length:=hi;exact(h _ _ ((hx i hi).trans (List.getElem?_eq_getElem hz))).2
def Wk.find (s:Wk) (nm:ByteArray):Option Va:=s.env.find? fun v=>sq v.name nm
def foundV (o:Option Va):Value:=.tuple #[(o.getD Va.zero).v,.bool o.isSome]
theorem find_some {l:List Va} {nm:ByteArray} (k:Nat) (hk:k<l.length) (hq:sq l[k].name nm=true) (hno:∀j,j<k→∀hj:j<l.length,sq l[j].name nm=false):(l.find? fun v=>sq v.name nm)=some l[k]:=by
 induction l generalizing k with
 |nil=>simp at hk
 |cons v l ih=>
  cases k with
  |zero=>simp at hq;simp[hq]
  |succ k=>
   have h0:=hno 0 (by omega) (by simp);simp at h0;rw[List.find?_cons_of_neg (by simp[h0])];exact ih k (by simpa using hk) (by simpa using hq) fun j hj hj'=>by have:=hno (j+1) (by omega) (by simpa using hj');simpa using this
theorem find_none {l:List Va} {nm:ByteArray} (hno:∀j,∀hj:j<l.length,sq l[j].name nm=false):(l.find? fun v=>sq v.name nm)=none:=by
 rw[List.find?_eq_none];intro v hv;obtain⟨j,hj,rfl⟩:=List.mem_iff_getElem.1 hv;simp[hno j hj]
theorem Find_any (base b:Nat) (PV:Value) (ru:Int) (w:World) (s:Wk) (ve vg:Value) (nm:ByteArray) (h:WkAt base b PV ru w s ve vg) (hc:s.env.length≤1099511627776):
  Calls Tryz.prog 168 #[.pointer (some ⟨b,0,none⟩),.string nm] w fun e w'=>e= .returned (foundV (s.find nm))∧Fr Non w w':=by
 obtain⟨A,c,rfl,hlc⟩:=row_slice h.env;have hb2:=Zb h.blk ((Zf w).alloc (.cells #[.string ⟨#[]⟩,.bool false,.bool false,.bool false,.bool false,.bool false,.bool false,.int .i64 0,.int .i64 0] 184)) (non _);have henv:=row_fr h.env ((Zf w).alloc (.cells #[.string ⟨#[]⟩,.bool false,.bool false,.bool false,.bool false,.bool false,.bool false,.int .i64 0,.int .i64 0] 184)) (fun _ _=>non _);have b2:=(Zc hb2).1 2 _ rfl;have HB:=Zh hb2;clear hb2;have HE:=Zh henv;clear henv;have H:=Zh h;clear h;go_enter Tryz.func168,Tryz.ntmps168;go_wp2_with fail
 go_loop [6] (fun i=>∃k:Nat,i= .int .i64 k∧k≤s.env.length∧∀j,j<k→∀hj:j<s.env.length,sq s.env[j].name nm=false) (fun i=>s.env.length-(intOf i).toNat)
 case atStart=>exact⟨0,rfl,by omega,fun j hj=>by omega⟩
 case round=>
  obtain⟨k,rfl,hk,hno⟩:=hrel;have HN:=Zh hno;clear hno;by_cases hlt:k<s.env.length
  ·obtain⟨g,rfl,hg,hcell⟩:=row_at HE.out (by omega);obtain⟨⟨v0,v1,v2,v3,v4,v5,v6,v7,v8⟩,_⟩:=va_cells hcell k hlt;have HC:=Zh hcell;clear hcell;cases hq:sq s.env[k].name nm with
   |true=>
    have hq':=hq;rw[←tosq] at hq';have HQ:=Zh hq;clear hq;go_wp2_with fail;refine bodyPost_ret (v:=.tuple #[s.env[k].v,.bool true]) ?_ rfl ?_
    ·simp[results,Tryz.results168,go_sem]<;>rfl
    ·refine⟨by rw[Wk.find,find_some k hlt HQ.out HN.out];rfl,?_⟩
     first
      |exact(Zf w).alloc _
      |exact((((((((((Zf w).alloc _).setCell _ _ (.inr (Nat.le_refl _))).setCell _ _ (.inr (Nat.le_refl _))).setCell _ _ (.inr (Nat.le_refl _))).setCell _ _ (.inr (Nat.le_refl _))).setCell _ _ (.inr (Nat.le_refl _))).setCell _ _ (.inr (Nat.le_refl _))).setCell _ _ (.inr (Nat.le_refl _))).setCell _ _ (.inr (Nat.le_refl _))).setCell _ _ (.inr (Nat.le_refl _))
   |false=>
    have hq':=hq;rw[←tosq] at hq';have HQ:=Zh hq;clear hq;go_wp2_with fail
    go_round
    case rel=>exact⟨k+1,by go_num,by omega,till HN.out fun _=>HQ.out⟩
    case measure=>simp[intOf];omega
  ·go_wp2_with fail;refine bodyPost_ret (v:=.tuple #[Va.zero.v,.bool false]) ?_ rfl ?_
   ·simp[results,Tryz.results168,go_sem]<;>rfl
   ·refine⟨by rw[Wk.find,find_none fun j hj=>HN.out j (by omega) hj];rfl,?_⟩
    first
     |exact(Zf w).alloc _
     |exact((((((((((Zf w).alloc _).setCell _ _ (.inr (Nat.le_refl _))).setCell _ _ (.inr (Nat.le_refl _))).setCell _ _ (.inr (Nat.le_refl _))).setCell _ _ (.inr (Nat.le_refl _))).setCell _ _ (.inr (Nat.le_refl _))).setCell _ _ (.inr (Nat.le_refl _))).setCell _ _ (.inr (Nat.le_refl _))).setCell _ _ (.inr (Nat.le_refl _))).setCell _ _ (.inr (Nat.le_refl _))
theorem row_put {base e g c n:Nat} {w:World} {l:List Va} (h:w.ownsRow base e 9 (.slice (some ⟨g,0,none⟩) n c) n (vasC l)) (k:Nat) (hk:k<l.length) (x:Va):
  (((((((((w.setCell ⟨g,k*9,none⟩ (.string x.name)).setCell ⟨g,k*9+1,none⟩ (.bool x.buf)).setCell ⟨g,k*9+2,none⟩ (.bool x.sec)).setCell ⟨g,k*9+3,none⟩ (.bool x.mt)).setCell ⟨g,k*9+4,none⟩ (.bool x.own)).setCell ⟨g,k*9+5,none⟩ (.bool x.set)).setCell ⟨g,k*9+6,none⟩ (.bool x.gone)).setCell ⟨g,k*9+7,none⟩ (.int .i64 x.lent)).setCell ⟨g,k*9+8,none⟩ (.int .i64 x.loops)).ownsRow base e 9 (.slice (some ⟨g,0,none⟩) n c) n (vasC (l.set k x)):=by
 have hl:=vas_len l;rw[←vas_set l k x hk];refine row_set (row_set (row_set (row_set (row_set (row_set (row_set (row_set (row_set h _ _ ?_) _ _ ?_) _ _ ?_) _ _ ?_) _ _ ?_) _ _ ?_) _ _ ?_) _ _ ?_) _ _ ?_;all_goals first|omega|(simp only[List.length_set];omega)
theorem fr_put {g k:Nat} {w:World} {S:Nat→Prop} (hs:S g) (v0 v1 v2 v3 v4 v5 v6 v7 v8:Value):
  Fr S w (((((((((w.setCell ⟨g,k*9,none⟩ v0).setCell ⟨g,k*9+1,none⟩ v1).setCell ⟨g,k*9+2,none⟩ v2).setCell ⟨g,k*9+3,none⟩ v3).setCell ⟨g,k*9+4,none⟩ v4).setCell ⟨g,k*9+5,none⟩ v5).setCell ⟨g,k*9+6,none⟩ v6).setCell ⟨g,k*9+7,none⟩ v7).setCell ⟨g,k*9+8,none⟩ v8):=
 (((((((((Fr.refl S w).setCell _ _ (.inl hs)).setCell _ _ (.inl hs)).setCell _ _ (.inl hs)).setCell _ _ (.inl hs)).setCell _ _ (.inl hs)).setCell _ _ (.inl hs)).setCell _ _ (.inl hs)).setCell _ _ (.inl hs)).setCell _ _ (.inl hs)
theorem set_self (l:List Va) (k:Nat) (hk:k<l.length) (v:Va) (h:l[k]=v):l.set k v=l:=by subst h;simp
def vput (l:List Va) (x:Va) (k:Nat):List Va:=(l.take k).map (fun v=>if sq v.name x.name then x else v)++l.drop k
def Wk.put (s:Wk) (x:Va):Wk:={s with env:=s.env.map fun v=>if sq v.name x.name then x else v}
theorem vput_step (l:List Va) (x:Va) (k:Nat) (hk:k<l.length):vput l x (k+1)=(vput l x k).set k (if sq l[k].name x.name then x else l[k]):=by
 rw[vput,vput,take_snoc l k hk,List.map_append,List.set_append_right _ _ (by simp;omega)];simp[Nat.min_eq_left (Nat.le_of_lt hk)];rw[List.drop_eq_getElem_cons hk];rfl
theorem vput_len (l:List Va) (x:Va) (k:Nat):(vput l x k).length=l.length:=by
 simp[vput];omega
theorem vput_at (l:List Va) (x:Va) (k:Nat) (hk:k<l.length):(vput l x k)[k]'(by rw[vput_len];exact hk)=l[k]:=by
 simp[vput,List.getElem_append_right,Nat.min_eq_left (Nat.le_of_lt hk)]
theorem vput_all (l:List Va) (x:Va):vput l x l.length=l.map fun v=>if sq v.name x.name then x else v:=by simp[vput]
theorem put_any (base b:Nat) (PV:Value) (ru:Int) (w:World) (s:Wk) (ve vg:Value) (x:Va) (h:WkAt base b PV ru w s ve vg) (hc:s.env.length≤1099511627776):
  Calls Tryz.prog 170 #[.pointer (some ⟨b,0,none⟩),x.v] w fun e w'=>e= .returned (.tuple #[])∧Stp base b PV ru w ve vg w' (s.put x):=by
 obtain⟨A,c,rfl,hlc⟩:=row_slice h.env;obtain⟨W1,HW1⟩:∃W1,W1=w.alloc (.cells #[.string x.name,.bool x.buf,.bool x.sec,.bool x.mt,.bool x.own,.bool x.set,.bool x.gone,.int .i64 x.lent,.int .i64 x.loops] 184):=⟨_,rfl⟩;have hbx:W1.heap[w.heap.size]? =some (.cells #[.string x.name,.bool x.buf,.bool x.sec,.bool x.mt,.bool x.own,.bool x.set,.bool x.gone,.int .i64 x.lent,.int .i64 x.loops] 184 (0,0)):=by rw[HW1];exact blk_new _ _ _
 have hf1:Fr Non w W1:=by rw[HW1];exact(Zf w).alloc _
 have hlt:=h.lt;have HLT:=Zh hlt;clear hlt;have HW:=Zh h;clear h;have HBX:=Zh hbx;clear hbx;have HF1:=Zh hf1;clear hf1;unfold Va.v;go_enter Tryz.func170,Tryz.ntmps170;go_wp2_with fail;rw[←HW1];clear HW1
 go_loopw [4] (fun i wr=>∃k:Nat,i= .int .i64 k∧k≤s.env.length∧Fr (fun q=>(Value.slice A s.env.length c).ownBlock=some q) W1 wr∧wr.ownsRow base 184 9 (.slice A s.env.length c) s.env.length (vasC (vput s.env x k))) (fun i _=>s.env.length-(intOf i).toNat)
 case atStart=>exact⟨0,rfl,by omega,Fr.refl _ _,row_fr HW.out.env HF1.out (fun _ _=>non _)⟩
 case round=>
  obtain⟨k,rfl,hk,hfr,hrow⟩:=hrel;have hbb:=Zb (Zb HW.out.blk HF1.out (non _)) hfr HW.out.be;have b2:=(Zc hbb).1 2 _ rfl;have HBB:=Zh hbb;clear hbb;have hnb:(Value.slice A s.env.length c).ownBlock≠some w.heap.size:=fun e=>by have:=(HLT.out _ (.inr (.inl e))).2;omega
  have hbx:=Zb HBX.out hfr hnb;have HNB:=Zh hnb;clear hnb;have HBR:=Zh hbx;clear hbx;have HF:=Zh hfr;clear hfr;by_cases hlt:k<s.env.length
  ·obtain⟨g,rfl,hg,hcell⟩:=row_at hrow (by omega);have HRW:=Zh hrow;clear hrow;obtain⟨⟨v0,_⟩,_⟩:=va_cells hcell k (by rw[vput_len];exact hlt);rw[vput_at s.env x k hlt] at v0;have HC:=Zh hcell;clear hcell;have x0:=(Zc HBR.out).1 0 _ rfl;go_wp2_with fail;have y0:=ext_cell v0;have y1:=ext_cell b2;have y2:=ext_cell x0;clear v0 b2 x0;refine wp_region_ext (by kernel_rfl) (by kernel_rfl) ?_
   repeat (go_big_quiet_step (fail))
   refine wpQuiet_nil ?_;intro w2 hf2;clear y0 y1 y2;rw[tosq];have hb2:=Zb HBB.out hf2 (non _);have b2:=(Zc hb2).1 2 _ rfl;have HB2:=Zh hb2;clear hb2;have hx2:=Zb HBR.out hf2 (non _);have hr2:=row_fr HRW.out hf2 (fun _ _=>non _);have HX2:=Zh hx2;clear hx2;have HR2:=Zh hr2;clear hr2;have HF2:=Zh (HF.out.trans hf2.non);clear hf2;generalize hq:sq s.env[k].name x.name=q;have HQ:=Zh hq;clear hq;cases q with
   |true=>
    have x0:=(Zc HX2.out).1 0 _ rfl;have x1:=(Zc HX2.out).1 1 _ rfl;have x2:=(Zc HX2.out).1 2 _ rfl;have x3:=(Zc HX2.out).1 3 _ rfl;have x4:=(Zc HX2.out).1 4 _ rfl;have x5:=(Zc HX2.out).1 5 _ rfl;have x6:=(Zc HX2.out).1 6 _ rfl;have x7:=(Zc HX2.out).1 7 _ rfl;have x8:=(Zc HX2.out).1 8 _ rfl;obtain⟨g',e',hg',hcell⟩:=row_at HR2.out (by omega);cases e';obtain⟨⟨v0,v1,v2,v3,v4,v5,v6,v7,v8⟩,fz,fi⟩:=va_cells hcell k (by rw[vput_len];exact hlt);have f1:=fi 1 (by omega);have f2:=fi 2 (by omega);have f3:=fi 3 (by omega);have f4:=fi 4 (by omega);have f5:=fi 5 (by omega);have f6:=fi 6 (by omega);have f7:=fi 7 (by omega);have f8:=fi 8 (by omega);clear fi hcell;go_wp2_with fail
    go_region
    clear x0 x1 x2 x3 x4 x5 x6 x7 x8 v0 v1 v2 v3 v4 v5 v6 v7 v8 fz f1 f2 f3 f4 f5 f6 f7 f8 b2;have hr9:=row_put HR2.out k (by rw[vput_len];exact hlt) x;have hf9:=fr_put (w:=w2) (g:=g) (k:=k) (S:=fun q=>(Value.slice (some ⟨g,0,none⟩) s.env.length c).ownBlock=some q) rfl (.string x.name) (.bool x.buf) (.bool x.sec) (.bool x.mt) (.bool x.own) (.bool x.set) (.bool x.gone) (.int .i64 x.lent) (.int .i64 x.loops);generalize hw9:World.setCell _ _ _=w9 at*;have HR9:=Zh hr9;clear hr9;have HF9:=Zh (HF2.out.trans hf9);clear hf9 hw9;go_wp2_with fail;go_roundw
    case rel=>exact⟨k+1,by go_num,by omega,HF9.out.drew,by rw[vput_step _ _ _ hlt,HQ.out];exact row_fr HR9.out (Zf _).drew (fun _ _=>non _)⟩
    case measure=>simp[intOf];omega
   |false=>
    go_wp2_with fail;go_roundw
    case rel=>exact⟨k+1,by go_num,by omega,HF2.out,by rw[vput_step _ _ _ hlt,HQ.out];simp only[Bool.false_eq_true,if_false];rw[set_self _ _ (by rw[vput_len];exact hlt) _ (vput_at _ _ _ hlt)];exact HR2.out⟩
    case measure=>simp[intOf];omega
  ·go_wp2_with fail
   go_end0
   obtain rfl:k=s.env.length:=by omega
   rw[vput_all] at hrow;refine⟨rfl,.slice A s.env.length c,vg,⟨HBB.out,?_,row_fr (row_fr HW.out.giv HF1.out (fun _ _=>non _)) HF.out (fun q hq e=>HW.out.eg q e hq),HW.out.be,HW.out.bg,HW.out.eg,HW.out.hb⟩,(HF1.out.non).trans (HF.out.mono fun q _ e=>.inr (.inl e)),fun q hq=>.inl hq⟩;show World.ownsRow _ _ _ _ _ (List.map _ s.env).length _
   rw[List.length_map];exact hrow
def Wk.give (ru:Int) (s:Wk) (v:Va):Wk:=
 let s1:=s.bad ru 10 (inM s.given v.name) 9
 {s1 with given:=s1.given++[v.name],env:=s1.env++[{v with loops:=s1.loops}]}
theorem bad_env (ru:Int) (s:Wk) (r:Int) (is:Bool) (e:Int):(s.bad ru r is e).env=s.env∧(s.bad ru r is e).given=s.given∧(s.bad ru r is e).loops=s.loops∧(s.bad ru r is e).n=s.n∧(s.bad ru r is e).f=s.f:=by
 unfold Wk.bad;split<;>exact⟨rfl,rfl,rfl,rfl,rfl⟩
theorem step_one {t e:TypeId} {z:Value} {size bytes:Nat} (ht:Tryz.prog.underlying t=some (.slice e)) (hi:(Tryz.prog.info? e).map (fun i=>(i.zero,i.size,i.bytes))=some (some z,size,bytes)) (hzs:z.cells.size=size) (hsz:0<size) (hby:bytes≤64)
  {ops:Array Oper} {o:Oper} {a:Act} {K:Act→World→Prop} {Q:Exit→Act→World→Prop} {E:Prop} {w:World} (hgd:o.guard=none) (s x:Operand)
  (ho:o.op= .call {callee:=.builtin .append,args:=#[s,x],argTypes:=#[t,t]})
  (base:Nat) (v:Value) (n:Nat) (xs:List Value) (hs:a.eval s=v) (hown:w.ownsRow base e size v n xs)
  (ad:Addr) (c:Nat) (news:List Value) (hx:a.eval x= .slice (some ad) 1 c) (hl:news.length=size) (hnews:∀j u,news[j]? =some u→w.cell? (ad.add j)=some u) (h1:∀u∈news,u.oneCell'=true)
  (hn:n≤1099511627776) (hbase:base≤w.heap.size)
  (h:∀g cap w',w'.ownsRow base e size (.slice (some ⟨g,0,none⟩) (n+1) cap) (n+1) (xs++news)→Fr (fun k=>v.ownBlock=some k) w w'→(v.ownBlock=some g∨w.heap.size≤g)→K (a.put o.dst (.slice (some ⟨g,0,none⟩) (n+1) cap)) w'):
  if Region.wanted o (yielded ops a.tmps)=true then Oper.wp Tryz.prog o a w K Q else E:=by
 obtain⟨i0,h0,hz1,hz2,hz3⟩:=info_parts hi;refine step_append_lies w hgd s x t ho base e i0 z size bytes ht h0 hz1 hz2 hz3 hzs hsz v n xs hs hown ad 1 c news hx (by omega) hnews h1 (by omega) (by unfold maxLen;omega) ?_ hbase w.heap.size rfl ?_
 ·have:=Nat.mul_le_mul (show n+1≤1099511627777 by omega) hby;omega
 ·intro g cap w' h2 h3 h4 h5;exact h g cap w' h2 ⟨h3.os,h3.tape,h3.output,h3.size,fun k hk hn=>h3.block k hk fun e=>hn e.symm⟩ (h4.imp id fun e=>by omega)
theorem WkAt.far {base b:Nat} {PV:Value} {ru:Int} {w w':World} {s:Wk} {ve vg:Value} {S:Nat→Prop} (h:WkAt base b PV ru w s ve vg) (hf:Fr S w w') (hs:∀k,WS b ve vg k→¬S k):WkAt base b PV ru w' s ve vg:=
 ⟨Zb h.blk hf (hs b (.inl rfl)),row_fr h.env hf (fun k hk=>hs k (.inr (.inl hk))),row_fr h.giv hf (fun k hk=>hs k (.inr (.inr hk))),h.be,h.bg,h.eg,h.hb⟩
theorem WkAt.gaveG {base b g n cap:Nat} {PV:Value} {ru:Int} {W3 W4 w4:World} {s1:Wk} {ve vg:Value} {nm:ByteArray} (h3:WkAt base b PV ru W3 s1 ve vg) (hfa:Fr Non W3 W4) (hn:s1.given.length=n)
  (hr4:w4.ownsRow base 9 1 (.slice (some ⟨g,0,none⟩) (n+1) cap) (n+1) (s1.given.map Value.string++[.string nm])) (hf4:Fr (fun k=>vg.ownBlock=some k) W4 w4) (hw4:vg.ownBlock=some g∨W4.heap.size≤g):
  WkAt base b PV ru (w4.setCell ⟨b,3,none⟩ (.slice (some ⟨g,0,none⟩) (n+1) cap)) {s1 with given:=s1.given++[nm]} ve (.slice (some ⟨g,0,none⟩) (n+1) cap)∧
  Fr (WS b ve vg) W3 (w4.setCell ⟨b,3,none⟩ (.slice (some ⟨g,0,none⟩) (n+1) cap))∧∀k,WS b ve (.slice (some ⟨g,0,none⟩) (n+1) cap) k→WS b ve vg k∨W3.heap.size≤k:=by
 have hsz:=hfa.size;have hgb:g≠b:=by
  rintro rfl;rcases hw4 with h|h
  ·exact h3.bg h
  ·have:=blk_lt h3.blk;omega
 have hf5:Fr (fun k=>k=b) w4 (w4.setCell ⟨b,3,none⟩ (.slice (some ⟨g,0,none⟩) (n+1) cap)):=(Fr.refl (fun k=>k=b) w4).setCell _ _ (.inl rfl);have hb4:=Zb (Zb h3.blk hfa (non _)) hf4 h3.bg;have he4:=row_fr (row_fr h3.env hfa (fun _ _=>non _)) hf4 (fun k hk e=>h3.eg k hk e);refine⟨⟨blk_set hb4 3 _,row_fr he4 hf5 (fun k hk e=>h3.be (by rw[hk,e])),?_,h3.be,?_,?_,h3.hb⟩,?_,?_⟩
 ·have:=row_fr hr4 hf5 (fun k hk e=>hgb (by simpa[Value.ownBlock,e] using hk));show World.ownsRow _ _ _ _ _ (s1.given++[nm]).length ((s1.given++[nm]).map Value.string)
  rw[List.length_append,hn,List.map_append];exact this
 ·intro h;exact hgb (by simpa[Value.ownBlock] using h)
 ·intro k hk h;have hk2:g=k:=by simpa[Value.ownBlock] using h
  subst hk2;rcases hw4 with h|h
  ·exact h3.eg _ hk h
  ·have:=(h3.env.lt _ hk).2;omega
 ·have h1:=hfa.non (S:=WS b ve vg);exact(h1.trans (hf4.mono fun k _ h=>.inr (.inr h))).trans (hf5.mono fun k _ h=>.inl h)
 ·rintro k (h|h|h)
  ·exact .inl (.inl h)
  ·exact .inl (.inr (.inl h))
  ·have hk2:g=k:=by simpa[Value.ownBlock] using h
   subst hk2;rcases hw4 with h|h
   ·exact .inl (.inr (.inr h))
   ·exact .inr (by omega)
theorem WkAt.gaveE {base b g n cap:Nat} {PV:Value} {ru:Int} {W3 W4 w4:World} {s1:Wk} {ve vg:Value} {x:Va} (h3:WkAt base b PV ru W3 s1 ve vg) (hfa:Fr Non W3 W4) (hn:s1.env.length=n)
  (hr4:w4.ownsRow base 184 9 (.slice (some ⟨g,0,none⟩) (n+1) cap) (n+1) (vasC s1.env++x.cells)) (hf4:Fr (fun k=>ve.ownBlock=some k) W4 w4) (hw4:ve.ownBlock=some g∨W4.heap.size≤g):
  WkAt base b PV ru (w4.setCell ⟨b,2,none⟩ (.slice (some ⟨g,0,none⟩) (n+1) cap)) {s1 with env:=s1.env++[x]} (.slice (some ⟨g,0,none⟩) (n+1) cap) vg∧
  Fr (WS b ve vg) W3 (w4.setCell ⟨b,2,none⟩ (.slice (some ⟨g,0,none⟩) (n+1) cap))∧∀k,WS b (.slice (some ⟨g,0,none⟩) (n+1) cap) vg k→WS b ve vg k∨W3.heap.size≤k:=by
 have hsz:=hfa.size;have hgb:g≠b:=by
  rintro rfl;rcases hw4 with h|h
  ·exact h3.be h
  ·have:=blk_lt h3.blk;omega
 have hf5:Fr (fun k=>k=b) w4 (w4.setCell ⟨b,2,none⟩ (.slice (some ⟨g,0,none⟩) (n+1) cap)):=(Fr.refl (fun k=>k=b) w4).setCell _ _ (.inl rfl);have hb4:=Zb (Zb h3.blk hfa (non _)) hf4 h3.be;have he4:=row_fr (row_fr h3.giv hfa (fun _ _=>non _)) hf4 (fun k hk e=>h3.eg k e hk);refine⟨⟨blk_set hb4 2 _,?_,row_fr he4 hf5 (fun k hk e=>h3.bg (by rw[hk,e])),?_,h3.bg,?_,h3.hb⟩,?_,?_⟩
 ·have:=row_fr hr4 hf5 (fun k hk e=>hgb (by simpa[Value.ownBlock,e] using hk));show World.ownsRow _ _ _ _ _ (s1.env++[x]).length (vasC (s1.env++[x]))
  rw[List.length_append,hn,show vasC (s1.env++[x])=vasC s1.env++x.cells by simp[vasC]];exact this
 ·intro h;exact hgb (by simpa[Value.ownBlock] using h)
 ·intro k h hk;have hk2:g=k:=by simpa[Value.ownBlock] using h
  subst hk2;rcases hw4 with h|h
  ·exact h3.eg _ h hk
  ·have:=(h3.giv.lt _ hk).2;omega
 ·have h1:=hfa.non (S:=WS b ve vg);exact(h1.trans (hf4.mono fun k _ h=>.inr (.inl h))).trans (hf5.mono fun k _ h=>.inl h)
 ·rintro k (h|h|h)
  ·exact .inl (.inl h)
  ·have hk2:g=k:=by simpa[Value.ownBlock] using h
   subst hk2;rcases hw4 with h|h
   ·exact .inl (.inr (.inl h))
   ·exact .inr (by omega)
  ·exact .inl (.inr (.inr h))
theorem give_any (base b:Nat) (PV:Value) (ru:Int) (w:World) (s:Wk) (ve vg:Value) (v:Va) (h:WkAt base b PV ru w s ve vg) (hc:s.env.length≤1099511627776) (hc2:s.given.length≤1099511627776):
  Calls Tryz.prog 137 #[.pointer (some ⟨b,0,none⟩),v.v] w fun e w'=>e= .returned (.tuple #[])∧Stp base b PV ru w ve vg w' (s.give ru v):=by
 obtain⟨A,c,rfl,hlc⟩:=row_slice h.giv;obtain⟨Ae,ce,rfl,hlce⟩:=row_slice h.env;obtain⟨W1,HW1⟩:∃W1,W1=w.alloc (.cells #[.string v.name,.bool v.buf,.bool v.sec,.bool v.mt,.bool v.own,.bool v.set,.bool v.gone,.int .i64 v.lent,.int .i64 v.loops] 184):=⟨_,rfl⟩;have hbx:W1.heap[w.heap.size]? =some (.cells #[.string v.name,.bool v.buf,.bool v.sec,.bool v.mt,.bool v.own,.bool v.set,.bool v.gone,.int .i64 v.lent,.int .i64 v.loops] 184 (0,0)):=by rw[HW1];exact blk_new _ _ _
 have hf1:Fr Non w W1:=by rw[HW1];exact(Zf w).alloc _
 have h1:=h.stay hf1;have HLT:=Zh h.lt;have HW:=Zh h;clear h;have b3:=(Zc h1.blk).1 3 _ rfl;have x0:=(Zc hbx).1 0 _ rfl;have H1:=Zh h1;clear h1;have HBX:=Zh hbx;clear hbx;have HF1:=Zh hf1;clear hf1;unfold Va.v;go_enter Tryz.func137,Tryz.ntmps137;go_wp2_with fail;rw[←HW1];clear HW1
 go_still_tail 8,(by kernel_rfl)
 change wpStill _ _ W1.drew _ _ _
 have h2:=H1.out.stay (Zf W1).drew
 still_call ((in10_any base _ A c s.given v.name W1.drew h2.giv (by omega)).mono fun e w' h=>⟨h.1,h.2.symm⟩)
 refine wpStill_nil ?_
 change wpList _ _ _ _ _ W1.drew
 have hx2:=Zb HBX.out (Zf W1).drew (non _);have hf2:=HF1.out.trans (Zf W1).drew;clear b3 x0 H1 HBX HF1;generalize W1.drew=W2 at*;have H2:=Zh h2;clear h2;have HX2:=Zh hx2;clear hx2;have HF2:=Zh hf2;clear hf2;go_wp2_with fail;refine(bad_any base b PV ru W2 s (.slice Ae s.env.length ce) (.slice A s.given.length c) 10 (inM s.given v.name) 9 H2.out).mono ?_;rintro e W3 ⟨rfl,hf3,h3⟩;have hnb:w.heap.size≠b:=fun e=>by have:=(HLT.out b (.inl rfl)).2;omega
 have hx3:=Zb HX2.out hf3 hnb;have HX3:=Zh hx3;clear hx3;have b3:=(Zc h3.blk).1 3 _ rfl;have bf:=(Zc h3.blk).2;have x0:=(Zc HX3.out).1 0 _ rfl;obtain⟨s1,hs1⟩:∃s1,s1=s.bad ru 10 (inM s.given v.name) 9:=⟨_,rfl⟩;rw[←hs1] at h3;have hg1:s1.given=s.given:=by rw[hs1];exact(bad_env ru s 10 _ 9).2.1
 have he1:s1.env=s.env:=by rw[hs1];exact(bad_env ru s 10 _ 9).1
 have hgr:=h3.giv;rw[hg1] at hgr;have hb3lt:b<W3.heap.size:=blk_lt h3.blk;have hw3lt:w.heap.size<W3.heap.size:=blk_lt HX3.out;have hB3:base≤W3.heap.size:=by have:=blk_lt h3.blk;have:=h3.hb;omega
 have H3:=Zh h3;clear h3;have HS1:=Zh hs1;clear hs1;have HG1:=Zh hg1;clear hg1;have HE1:=Zh he1;clear he1;have HGR:=Zh hgr;clear hgr;have HF3:=Zh hf3;clear hf3;go_wp2_with fail;refine(fun(key: ?K)=>?main) ?kp
 case main=>
  go_region_law (refine step_one (z:=.string ⟨#[]⟩) (size:=1) (bytes:=16) (by kernel_rfl) (by kernel_rfl) rfl (by decide) (by decide) rfl (.tmp 17) (.tmp 20) rfl base (.slice A s.given.length c) s.given.length (s.given.map Value.string) rfl (row_fr HGR.out ((Zf _).alloc _).drew (fun _ _=>non _)) ⟨W3.heap.size,0,none⟩ 1 [.string v.name] rfl rfl (fun j u h=>by rw[World.cell?_drew];exact new_cells' rfl j u h) (by intro u hu;simp at hu;subst hu;rfl) hc2 (Nat.le_trans hB3 ((Zf W3).alloc _).drew.size) ?_;intro g cap w4 hr4 hf4 hw4;have hb4:=Zb (Zb H3.out.blk ((Zf _).alloc _).drew (non _)) hf4 H3.out.bg;have bf4:=(Zc hb4).2;have b34:=(Zc hb4).1 3 _ rfl)
  all_goals
   obtain⟨h5,hf5,hn5⟩:=H3.out.gaveG ((Zf _).alloc _).drew (by rw[HG1.out]) (by rw[HG1.out];exact hr4) hf4 hw4;generalize hw5:World.setCell w4 _ _=w5 at*;clear hw5 hr4 hf4 hw4 hb4 bf4 b34 w4;revert h5 hf5 hn5;revert g cap w5;exact key
 case kp=>
  intro g cap w5 hn5 h5 hf5;clear b3 bf x0 hB3 hb3lt hw3lt;have hnw:¬WS b (.slice Ae s.env.length ce) (.slice A s.given.length c) w.heap.size:=fun h=>by have:=(HLT.out _ h).2;omega
  have hx5:=Zb HX3.out hf5 hnw;have hsz5:w.heap.size<w5.heap.size:=blk_lt hx5;have hnw5:¬WS b (.slice Ae s.env.length ce) (.slice (some ⟨g,0,none⟩) (s.given.length+1) cap) w.heap.size:=fun h=>by
   rcases hn5 _ h with h|h
   ·exact hnw h
   ·have:=blk_lt HX3.out;omega
  have b8:=(Zc h5.blk).1 8 _ rfl;have x8:=(Zc hx5).1 8 _ rfl;have xf:=(Zc hx5).2;have hx6:(w5.setCell ⟨w.heap.size,8,none⟩ (.int .i64 s1.loops)).heap[w.heap.size]? =some (.cells #[.string v.name,.bool v.buf,.bool v.sec,.bool v.mt,.bool v.own,.bool v.set,.bool v.gone,.int .i64 v.lent,.int .i64 s1.loops] 184 (0,0)):=blk_set hx5 8 (.int .i64 s1.loops);have hf6:Fr (fun k=>k=w.heap.size) w5 (w5.setCell ⟨w.heap.size,8,none⟩ (.int .i64 s1.loops)):=(Fr.refl (fun k=>k=w.heap.size) w5).setCell _ _ (.inl rfl);have h6:=h5.far hf6 (fun k hk e=>hnw5 (e▸hk));have HX6:=Zh hx6;clear hx6 hx5;have H5:=Zh h5;clear h5;have H6:=Zh h6;clear h6;have HF5:=Zh hf5;clear hf5;have HN5:=Zh hn5;clear hn5;have HNW:=Zh hnw;clear hnw;have HNW5:=Zh hnw5;clear hnw5;have HF6:=Zh hf6;clear hf6;go_upto_region 4 with fail;generalize hw6:World.setCell w5 _ _=w6 at*;clear hw6 b8 x8 xf;have b2:=(Zc H6.out.blk).1 2 _ rfl;have bf:=(Zc H6.out.blk).2;have x0:=(Zc HX6.out).1 0 _ rfl;have x1:=(Zc HX6.out).1 1 _ rfl;have x2:=(Zc HX6.out).1 2 _ rfl;have x3:=(Zc HX6.out).1 3 _ rfl;have x4:=(Zc HX6.out).1 4 _ rfl;have x5:=(Zc HX6.out).1 5 _ rfl;have x6:=(Zc HX6.out).1 6 _ rfl;have x7:=(Zc HX6.out).1 7 _ rfl;have x8:=(Zc HX6.out).1 8 _ rfl;have hb6lt:b<w6.heap.size:=blk_lt H6.out.blk;have hx6lt:w.heap.size<w6.heap.size:=blk_lt HX6.out;have hB6:base≤w6.heap.size:=by have:=H6.out.hb;omega
  have hgr:=H6.out.env;rw[show(⟨s1.env,s1.given++[v.name],s1.n,s1.fat,s1.ferr,s1.loops,s1.f⟩:Wk).env=s.env from HE1.out] at hgr;have HGE:=Zh hgr;clear hgr;refine(fun(key: ?K2)=>?main2) ?kp2
  case main2=>
   go_region_law (refine step_one (z:=vaZ) (size:=9) (bytes:=40) (by kernel_rfl) (by kernel_rfl) rfl (by decide) (by decide) rfl (.tmp 33) (.tmp 35) rfl base (.slice Ae s.env.length ce) s.env.length (vasC s.env) rfl (row_fr HGE.out ((Zf _).alloc _).drew (fun _ _=>non _)) ⟨w6.heap.size,0,none⟩ 1 (Va.cells {v with loops:=s1.loops}) rfl rfl (fun j u h=>by rw[World.cell?_drew];exact new_cells' rfl j u h) (by intro u hu;simp[Va.cells] at hu;rcases hu with rfl|rfl|rfl|rfl|rfl|rfl|rfl|rfl|rfl<;>rfl) hc (Nat.le_trans hB6 ((Zf w6).alloc _).drew.size) ?_;intro g' cap' w4 hr4 hf4 hw4;have hb4:=Zb (Zb H6.out.blk ((Zf _).alloc _).drew (non _)) hf4 H6.out.be;have bf4:=(Zc hb4).2;have b34:=(Zc hb4).1 2 _ rfl)
   all_goals
    obtain⟨h7,hf7,hn7⟩:=H6.out.gaveE (x:={v with loops:=s1.loops}) ((Zf _).alloc _).drew (show(⟨s1.env,s1.given++[v.name],s1.n,s1.fat,s1.ferr,s1.loops,s1.f⟩:Wk).env.length=s.env.length by rw[show(⟨s1.env,s1.given++[v.name],s1.n,s1.fat,s1.ferr,s1.loops,s1.f⟩:Wk).env=s.env from HE1.out]) (by rw[show(⟨s1.env,s1.given++[v.name],s1.n,s1.fat,s1.ferr,s1.loops,s1.f⟩:Wk).env=s.env from HE1.out];exact hr4) hf4 hw4;generalize hw7:World.setCell w4 _ _=w7 at*;clear hw7 hr4 hf4 hw4 hb4 bf4 b34 w4;revert h7 hf7 hn7;revert g' cap' w7;exact key
  case kp2=>
   intro g' cap' w7 hn7 h7 hf7;clear b2 bf x0 x1 x2 x3 x4 x5 x6 x7 x8;have HN7:=Zh hn7;clear hn7;have H7:=Zh h7;clear h7;have HF7:=Zh hf7;clear hf7;go_wp2_with fail
   go_end0
   refine⟨rfl,.slice (some ⟨g',0,none⟩) (s.env.length+1) cap',.slice (some ⟨g,0,none⟩) (s.given.length+1) cap,?_,?_,?_⟩
   ·have h7:=H7.out;rw[HS1.out] at h7;exact h7
   ·have f1:Fr (WS b (.slice Ae s.env.length ce) (.slice A s.given.length c)) w W3:=(HF2.out.non).trans (HF3.out.mono fun k _ h=>.inl h);have f2:=f1.trans HF5.out;have f3:=f2.then HF6.out (fun k hk e=>by have e:k=w.heap.size:=e;omega);exact f3.then HF7.out (fun k hk h=>by
     rcases HN5.out k h with h|h
     ·exact h
     ·have:=blk_lt HX3.out;omega)
   ·intro k h;rcases HN7.out k h with h|h
    ·rcases HN5.out k h with h|h
     ·exact .inl h
     ·have:=blk_lt HX3.out;exact .inr (by omega)
    ·exact .inr (by omega)
end Go.Proofs.YtpkpgmnbheenbaaGreatDoor
