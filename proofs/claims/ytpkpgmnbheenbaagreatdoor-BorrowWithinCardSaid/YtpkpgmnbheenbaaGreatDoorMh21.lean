/- Contracts and laws, Mh21 -/
import Derived.Test.YtpkpgmnbheenbaaGreatDoorMh01
import Derived.Test.YtpkpgmnbheenbaaGreatDoorMh06
import Derived.Test.YtpkpgmnbheenbaaGreatDoorMh07
import Derived.Test.YtpkpgmnbheenbaaGreatDoorMh20
import Derived.Recover
import Derived.Defers
import Derived.Outline
import Derived.Laws.StructEq
namespace Go.Proofs.YtpkpgmnbheenbaaGreatDoor
open Go.RowKit
set_option linter.unusedVariables false
set_option linter.unusedSimpArgs false
set_option maxHeartbeats 8000000
set_option maxRecDepth 100000
theorem evFun_n {ru:Int} {P:List Fu} {F:Nat} {f:Fu} {n m:Int} (h:evFun ru P F f n= .ok m):n≤m∧m≤n+St.sizes f.body+2:=by
 unfold evFun at h;split at h
 ·cases h
 rename_i a ha;have h2:=evStmts_n ru P F _ _ _ ha;have h3:=evParams_n f.params ⟨[],n,0⟩;split at h
 ·cases h;simp only at h3;omega
 ·cases h
theorem evWalk_n (ru:Int) (P:List Fu):∀(i:Nat) (n:Int),i≤P.length→evWalk ru P i= .ok n→0≤n∧n≤2*i+Fu.sizes (P.take i)
 |0,n,_,h=>by cases h;simp[Fu.sizes]
 |i+1,n,hi,h=>by
  rw[evWalk] at h;split at h
  ·cases h
  rename_i m hm;have h1:=evWalk_n ru P i m (by omega) hm;have h2:=evFun_n h;have h3:=fsizes_take P i (by omega);rw[List.getD_eq_getElem?_getD,List.getElem?_eq_getElem (by omega),Option.getD_some] at h2
  push_cast
  omega
theorem evWalk_mono (ru:Int) (P:List Fu) (x:Int):∀(i j:Nat),i≤j→evWalk ru P i= .error x→evWalk ru P j= .error x
 |i,j,hij,h=>by
  induction hij with
  |refl=>exact h
  |step _ ih=>rw[evWalk,ih]
theorem wp_named {P:Program} {c:Code} {Q:Exit→Act→World→Prop} {a:Act} {w:World} (h:∀W,W=w→c.wp P Q a W):c.wp P Q a w:=h w rfl
theorem ev_start {wb:Nat} {PV v2 v5:Value} {ru n:Int} {j:Nat} {cs:Array Value} {T:TypeId} {wr W5:World} (hb:wr.heap[wb]? =some (.cells #[PV,.int .u8 ru,v2,.int .i64 n,.int .i64 0,v5] 101 (0,0)))
  (hW:W5=(((wr.setCell ⟨wb,2,none⟩ (.int .i64 (j:Int))).setCell ⟨wb,5,none⟩ (.map (some (wr.heap.size+1)))).alloc (.cells cs T)).alloc (.map #[] 0)):
  EvAt wb wb PV ru j W5 ⟨[],n,0⟩ (wr.heap.size+1)∧W5.heap[wr.heap.size]? =some (.cells cs T (0,0))∧Fr (fun k=>k=wb) wr W5:=by
 subst hW;have h2:=blk_set (blk_set hb 2 (.int .i64 (j:Int))) 5 (.map (some (wr.heap.size+1)));have hz:((wr.setCell ⟨wb,2,none⟩ (.int .i64 (j:Int))).setCell ⟨wb,5,none⟩ (.map (some (wr.heap.size+1)))).heap.size=wr.heap.size:=by simp[World.setCell]
 generalize hw2:(wr.setCell ⟨wb,2,none⟩ (.int .i64 (j:Int))).setCell ⟨wb,5,none⟩ (.map (some (wr.heap.size+1)))=w2 at*;have hf:Fr (fun k=>k=wb) wr w2:=by rw[←hw2];exact((Fr.refl (fun k=>k=wb) wr).setCell _ _ (.inl rfl)).setCell _ _ (.inl rfl)
 have hlt:=blk_lt hb;refine⟨⟨blk_old (blk_old h2),?_,Nat.le_refl _,by omega⟩,blk_old (blk_new' hz _ _),(hf.alloc _).alloc _⟩;have hm:=MapS.new (w2.alloc (.cells cs T));have e:(w2.alloc (.cells cs T)).heap.size=wr.heap.size+1:=by simp[hz]
 rw[e] at hm;exact hm
theorem evFun_e1 {ru:Int} {P:List Fu} {F:Nat} {f:Fu} {n m:Int} {ap:Ev} (h1:evParams f.params ⟨[],n,0⟩=ap) (h2:evStmts ru P F f.body ap= .error m):evFun ru P F f n= .error m:=by
 unfold evFun;rw[h1,h2]
theorem evFun_e2 {ru:Int} {P:List Fu} {F:Nat} {f:Fu} {n:Int} {ap a:Ev} (h1:evParams f.params ⟨[],n,0⟩=ap) (h2:evStmts ru P F f.body ap= .ok a) (h3:(f.ret.all fun e=>a.next.into ru e f.sec)=false):evFun ru P F f n= .error (a.n+1):=by
 unfold evFun;rw[h1,h2];simp only;have h4:(f.ret.all fun e=>a.into ru e f.sec)=false:=h3;rw[h4];rfl
theorem evFun_ok {ru:Int} {P:List Fu} {F:Nat} {f:Fu} {n:Int} {ap a:Ev} (h1:evParams f.params ⟨[],n,0⟩=ap) (h2:evStmts ru P F f.body ap= .ok a) (h3:(f.ret.all fun e=>a.next.into ru e f.sec)=true):evFun ru P F f n= .ok (a.n+1+1):=by
 unfold evFun;rw[h1,h2];simp only;have h4:(f.ret.all fun e=>a.into ru e f.sec)=true:=h3;rw[h4];rfl
theorem evParams_snoc (l:List Pa) (x:Pa) (a:Ev):evParams (l++[x]) a=evParam (evParams l a) x:=by simp[evParams]
def evCheckV (ru:Int) (P:List Fu):Value:=match evWalk ru P P.length with
 | .error n=>faultV n (codeOf ru)
 | .ok _=>.nilIface
def QF (Q:Exit→Act→World→Prop) (G:Act→Prop):Exit→Act→World→Prop
 | .panic x,a,w=>∀a',a'.defers=a.defers→G a'→Q (.panic x) a' w
 |e,a,w=>Q e a w
theorem letsQF {Q:Exit→Act→World→Prop} {G:Act→Prop} (h:LetsOut (QF Q G)):LetsOut Q:=let ⟨a,w,h⟩:=h;⟨a,w,h⟩
theorem owpF {P:Program} {Q:Exit→Act→World→Prop} {G:Act→Prop} {o:Oper} {a:Act} {w:World} {K K':Act→World→Prop} (ha:G a) (h1:∀v,G (a.put o.dst v)) (h2:∀d v,G (({a with defers:=d::a.defers}:Act).put o.dst v))
  (h:∀a w,G a→K a w→K' a w) (hh:o.wp P a w K (QF Q G)):o.wp P a w K' Q:=by
 unfold Oper.wp at*;generalize (execOp a.eval o).run P w=r at*;cases r with
 |ok n w'=>
  cases n<;>simp only[Oper.upon] at hh ⊢ <;>
   first
    |exact h _ _ (h1 _) hh
    |exact h _ _ (h2 _ _) hh
    |exact Calls.mono hh (fun e w'' he=>by cases e<;>first|exact h _ _ (h1 _) he|exact he a rfl ha|exact letsQF he)
    |exact Rows.mono hh (fun _ _ he=>h _ _ (h1 _) he)
 |halt x w'=>
  cases x<;>simp only[Oper.upon] at hh ⊢;all_goals first|exact hh a rfl ha|exact hh
theorem wpAny_lift {P:Program} {md:Region.Mode} {ops:Array Oper} {Q:Exit→Act→World→Prop} {G:Act→Prop} (h1:∀(i:Nat) (oi:Oper),ops[i]? =some oi→∀(a:Act) (v:Value),G a→G (a.put oi.dst v)) (h2:∀(a:Act) (ds:List Deferred),G a→G {a with defers:=ds}):
  ∀(fuel:Nat) (listed:Array Bool) (a:Act) (w:World),G a→wpAny P md ops (QF Q G) fuel listed a w→wpAny P md ops Q fuel listed a w
 |0,_,_,_,_,h=>⟨h.1,h.2⟩
 |fuel+1,listed,a,w,ha,h=>by
  refine⟨h.1,fun i hi=>?_⟩;have hh:=h.2 i hi;unfold wpOp at*;split
  ·rename_i hn;simp only[hn] at hh;exact wpAny_lift h1 h2 fuel _ _ _ ha hh
  ·rename_i o ho;simp only[ho] at hh;split
   ·rename_i hw;simp only[hw,if_true] at hh;exact hh.imp (owpF ha (fun v=>h1 i o ho a v ha) (fun d v=>h1 i o ho _ v (h2 a _ ha)) (fun a w hg hk=>wpAny_lift h1 h2 fuel _ a w hg hk)) (fun h=>⟨h.1,letsQF h.2⟩)
   ·rename_i hw;simp only[hw] at hh;exact wpAny_lift h1 h2 fuel _ _ _ (h1 i o ho a _ ha) hh
def NoPan (Q:Exit→Act→World→Prop):Exit→Act→World→Prop
 | .panic _,_,_=>False
 |e,a,w=>Q e a w
theorem wp_nopan {P:Program} {c:Code} {Q:Exit→Act→World→Prop} {a:Act} {w:World} (h:c.wp P (NoPan Q) a w):c.wp P Q a w:=
 Code.wp_mono (fun e _ _ q=>by cases e<;>first|exact q|exact q.elim) h
theorem nopan {Q:Exit→Act→World→Prop} {a:Act} {w:World} (h:Q .normal a w):NoPan Q .normal a w:=h
theorem slot_stay {p:Value} {ops:Array Oper} (h:ops.all (fun o=>o.dst !=some 4)=true):∀(i:Nat) (oi:Oper),ops[i]? =some oi→∀(a:Act) (v:Value),a.tmps[4]? =some p→(a.put oi.dst v).tmps[4]? =some p:=by
 intro i oi hi a v ha;have hx:=(Array.all_eq_true'.1 h) oi (Array.mem_of_getElem? hi);unfold Act.put;cases hd:oi.dst with
 |none=>exact ha
 |some d=>
  have hne:d≠4:=by rintro rfl;simp[hd] at hx
  simp only[Array.getElem?_setIfInBounds_ne hne];exact ha
theorem echeck_fin (x y:Int) (q:Nat) (w4:World) (tm:Array Value) (R:Ending→World→Prop) (ht:tm[4]? =some (.pointer (some ⟨q,0,none⟩)))
  (hb:w4.heap[q]? =some (.cells #[.nilIface] 30 (0,0))) (hR:∀w'',Fr (fun k=>k=q) w4 w''→R (.returned (faultV x y)) w''):Leaves Tryz.prog Tryz.f41 tm R [{target:=.fn (.func 63) #[.pointer (some ⟨q,0,none⟩)],args:=#[]}] (.panicking [{v:=faultV x y,recovered:=false}]) w4:=by
 have ht2:tm.getD 4 undef= .pointer (some ⟨q,0,none⟩):=by rw[Array.getD_eq_getD_getElem?,ht];rfl
 refine leaves_cons (f:=63) (args:=#[.pointer (some ⟨q,0,none⟩)]) (by simp) (by simp[go_sem]) ?_;refine(echeck_catch q _ _ x y _ hb).mono ?_;rintro e u' w'' ⟨rfl,rfl,hb6,hf6⟩;have c6:=(Zc hb6).1 0 _ rfl;simp[Leaves,settle,results,Tryz.results41,go_sem,c6,ht2,ht];exact hR _ hf6
theorem echeck_end (x y:Int) (q:Nat) (w4:World) (a:Act) (R:Ending→World→Prop) (hd:a.defers=[{target:=.fn (.func 63) #[.pointer (some ⟨q,0,none⟩)],args:=#[]}]) (ht:a.tmps[4]? =some (.pointer (some ⟨q,0,none⟩)))
  (hb:w4.heap[q]? =some (.cells #[.nilIface] 30 (0,0))) (hR:∀w'',Fr (fun k=>k=q) w4 w''→R (.returned (faultV x y)) w''):Leaves Tryz.prog Tryz.f41 a.tmps R a.defers (.panicking [{v:=faultV x y,recovered:=false}]) w4:=by
 rw[hd];exact echeck_fin x y q w4 a.tmps R ht hb hR
theorem echeck_any (ru:Int) (P:List Fu) (ok:Nat→Prop) (A:Option Addr) (c:Nat) (w:World) (hr:RdRows ok w 5 A 0 (P.map Fu.d)) (hc:P.length*96≤reach) (hpc:P.length≤c) (hm:mayM P=true) (hok:∀q,ok q→q<w.heap.size):
  Calls Tryz.prog 41 #[.agg #[.slice A P.length c],.int .u8 ru] w fun e w'=>e= .returned (evCheckV ru P)∧Fr Non w w':=by
 have hlen:P.length≤140737488355328:=by unfold reach at hc;omega
 have hmf:∀(fn:Fn) (first cap:Array Value) (w:World),(Instr.makeFunc fn first cap).run Tryz.prog w= .ok (.func fn first cap) w:=fun _ _ _ _=>rfl;have hmm:=@run_makeMap Tryz.prog;have h16:P.length≤16∧Fu.sizes P≤400:=by simp only[mayM,Bool.and_eq_true,decide_eq_true_eq] at hm;exact hm.2
 have hp16:=h16.1;have hs400:=h16.2;clear h16;obtain⟨W1,HW1⟩:∃W1,W1=(w.alloc (.cells #[.slice A P.length c] 24)).alloc (.cells #[.nilIface] 30):=⟨_,rfl⟩;have hfw:Fr Non w W1:=by rw[HW1];exact((Zf w).alloc _).alloc _
 have hbp:W1.heap[w.heap.size]? =some (.cells #[.slice A P.length c] 24 (0,0)):=by rw[HW1];exact blk_old (blk_new _ _ _)
 have hbr:W1.heap[w.heap.size+1]? =some (.cells #[.nilIface] 30 (0,0)):=by rw[HW1];exact blk_new' (by simp) _ _
 have HR:=Zh hr;clear hr;have HM:=Zh hm;clear hm;have g0:=(Zc hbp).1 0 _ rfl;have HBR:=Zh hbr;clear hbr;have hrl:=blk_lt HBR.out;have HFW:=Zh hfw;clear hfw;obtain⟨r,hR⟩:∃r:Value,evCheckV ru P=r:=⟨_,rfl⟩;rw[hR];have HRR:=Zh hR;clear hR;go_enter_defers Tryz.func41,Tryz.ntmps41;go_upto_region 1 with fail;rw[show((w.alloc (.cells #[.slice A P.length c] 24)).alloc (.cells #[.nilIface] 30))=W1 from HW1.symm];clear HW1;obtain⟨W3,HW3⟩:∃W3,W3=W1.alloc (.cells #[.slice A P.length c,.int .u8 ru,.int .i64 0,.int .i64 0,.int .i64 0,.map none] 101):=⟨_,rfl⟩;have hf3:Fr Non W1 W3:=by rw[HW3];exact(Zf W1).alloc _
 have hbw:W3.heap[W1.heap.size]? =some (.cells #[.slice A P.length c,.int .u8 ru,.int .i64 0,.int .i64 0,.int .i64 0,.map none] 101 (0,0)):=by rw[HW3];exact blk_new _ _ _
 obtain⟨wb,hwb⟩:∃wb,wb=W1.heap.size:=⟨_,rfl⟩;have hbr3:=Zb HBR.out hf3 (non _);have hbp3:=Zb hbp hf3 (non _);have HF3:=Zh (HFW.out.trans hf3);have hz1:w.heap.size≤W1.heap.size:=HFW.out.size;clear hf3;go_upto_region 3 with fail;rw[←HW3];clear HW3 g0 hbp;rw[←hwb] at hbw hrl hz1 ⊢;have HBW:=Zh hbw;clear hbw;have HBR3:=Zh hbr3;clear hbr3;have g0:=(Zc hbp3).1 0 _ rfl;clear hbp3;clear hwb;go_wp2_with fail;clear g0
 go_loopw [22] (fun i wr=>∃(j:Nat) (n:Int) (v2 v5:Value),i= .int .i64 j∧j≤P.length∧evWalk ru P j= .ok n∧wr.heap[wb]? =some (.cells #[.slice A P.length c,.int .u8 ru,v2,.int .i64 n,.int .i64 0,v5] 101 (0,0))∧Fr (fun k=>k=wb) W3 wr) (fun i _=>P.length-(intOf i).toNat)
 case atStart=>exact⟨0,0,_,_,rfl,by omega,rfl,HBW.out,Fr.refl _ _⟩
 case round=>
  obtain⟨j,n,v2,v5,rfl,hj,hwk,hbw,hfr⟩:=hrel;have HWK:=Zh hwk;clear hwk;have HNB:=Zh (evWalk_n ru P j n hj HWK.out);have hbr4:=Zb HBR3.out hfr (by omega);have HFJ:=Zh (HF3.out.then hfr fun k hk e=>by have e:k=wb:=e;omega);have HFW3:=Zh hfr;clear hfr;by_cases hlt:j<P.length
  ·obtain⟨pg,po,A1,c1,A2,c2,A3,c3,hpa,hd,e0,e1,e2,e3,e4,r1,r2,r3⟩:=at_fu (HR.out.fr HFJ.out (fun _ _=>non _) fun _ h=>h) j hlt;subst hpa;have hokF:okF P[j]=true:=by
    have h:=HM.out;simp only[mayM,Bool.and_eq_true,List.all_eq_true] at h;exact h.1 _ (List.getElem_mem hlt)
   have HST:=Zh (show evWalk ru P (j+1)=evFun ru P j P[j] n by rw[evWalk,HWK.out];simp only;rw[List.getD_eq_getElem?_getD,List.getElem?_eq_getElem hlt,Option.getD_some]);have hsz1:=fsizes_take P j hlt;have hsz2:=fsizes_take_le P (j+1);obtain⟨f,hf⟩:∃f,P[j]=f:=⟨_,rfl⟩;rw[hf] at e0 e1 e2 e3 e4 r1 r2 r3 hokF HST hsz1;clear hf;have hn0:0≤n:=HNB.out.1;have hn1:n+St.sizes f.body≤1000:=by have:=HNB.out.2;omega
   have HOKF:=Zh hokF;clear hokF;have R1:=Zh r1;clear r1;have R2:=Zh r2;clear r2;have R3:=Zh r3;clear r3;have b2:=(Zc hbw).1 2 _ rfl;have b5:=(Zc hbw).1 5 _ rfl;have bf:=(Zc hbw).2;have hbl:=blk_lt hbw;go_upto_region 7 with fail;obtain⟨wo,rfl⟩:∃wo:World,wo=wr:=⟨_,rfl⟩;refine wp_named ?_;intro W5 hW5;obtain⟨h5,hx5,hf5⟩:=ev_start hbw hW5;clear hW5 b2 b5 bf hbw hmm e0 e1 e2 e3 e4;have hzo:W3.heap.size≤wo.heap.size:=HFW3.out.size;obtain⟨bk,hbk⟩:∃bk,bk=wo.heap.size+1:=⟨_,rfl⟩;obtain⟨fb,hfb⟩:∃fb,fb=wo.heap.size:=⟨_,rfl⟩;rw[←hbk] at h5;rw[←hfb] at hx5 ⊢;have hwbo:wb<wo.heap.size:=hbl;have hrbo:w.heap.size+1<wo.heap.size:=blk_lt hbr4;have hk1:wb<fb:=by omega
   have hk2:fb<bk:=by omega
   have hk3:wo.heap.size≤bk:=by omega
   have hk4:w.heap.size+1<fb:=by omega
   have hbkz:bk<W5.heap.size:=h5.nm.lt;clear hbk hfb;have H5:=Zh h5;clear h5;have X5:=Zh hx5;clear hx5;have RB5:=Zh (Zb hbr4 hf5 (by omega));clear hbr4;have F5:=Zh (HFJ.out.then hf5 (S:=Non) fun k hk e=>by have e:k=wb:=e;omega);have G5:=Zh (HFW3.out.trans hf5);have hno:=fun q (hq:ok q) (e:(fun k=>k=wb) q)=>(show False by have e:q=wb:=e;have:=hok q hq;omega);have RP5:=Zh (R1.out.2.2.fr hf5 hno fun _ h=>h);have RB5':=Zh (R2.out.2.2.fr hf5 hno fun _ h=>h);have RE5:=Zh (R3.out.2.2.fr hf5 hno fun _ h=>h);clear hf5 hno;have hES:∀q,q<w.heap.size+2→q≠wb→¬ES wb bk q:=fun q h1 h2 e=>by rcases e with e|e<;>omega
   have hESw:∀q,q<w.heap.size→¬ES wb bk q:=fun q h1 e=>by rcases e with e|e<;>omega
   have HES:=Zh hES;clear hES;have HESW:=Zh hESw;clear hESw;have HOKE:=Zh (show∀q,ok q→¬ES wb bk q from fun q hq=>HESW.out q (hok q hq));have hrne:w.heap.size+1≠wb:=by omega
   have f1:=(Zc X5.out).1 1 _ rfl;have hlp:f.params.length≤140737488355328:=by have:=R1.out.2.1;unfold reach at this;omega
   have hlb:f.body.length≤140737488355328:=by have:=R2.out.2.1;unfold reach at this;omega
   have hle:f.ret.length≤140737488355328:=by have:=R3.out.2.1;unfold reach at this;omega
   go_wp2_with fail
   go_loopw [38] (fun i wr=>∃k:Nat,i= .int .i64 k∧k≤f.params.length∧EvAt wb wb (.slice (some ⟨pg,po,none⟩) P.length c) ru j wr (evParams (f.params.take k) ⟨[],n,0⟩) bk∧Fr (ES wb bk) W5 wr) (fun i _=>f.params.length-(intOf i).toNat)
   case atStart=>exact⟨0,rfl,by omega,H5.out,Fr.refl _ _⟩
   case round=>
    obtain⟨k,rfl,hk,hat,hfr⟩:=hrel;by_cases hltk:k<f.params.length
    ·obtain⟨g,o,hB1,hd',e0,e1,e2,e3⟩:=at_pa (RP5.out.fr hfr HOKE.out fun _ h=>h) k hltk;subst hB1;obtain⟨x,hx⟩:∃x,f.params[k]=x:=⟨_,rfl⟩;rw[hx] at e0 e1 e2 e3;have HX:=Zh hx;clear hx;have HAT:=Zh hat;clear hat;have HFR:=Zh hfr;clear hfr;go_wp2_with fail;refine(egive_any wb wb _ ru j _ (evParams (f.params.take k) ⟨[],n,0⟩) bk x.name ⟨x.buf,x.sec,x.mt,false,false,false,0,0⟩ (HAT.out.stay ((Zf _).alloc _))).mono ?_;rintro r w8 ⟨rfl,hf8,h8⟩;have H8:=Zh h8;have F8:=Zh (HFR.out.trans (((Zf _).alloc _).non.trans (hf8.mono (T:=ES wb bk) fun _ _ h=>.inr h)));clear h8 hf8;go_wp2_with fail;go_roundw
     case rel=>exact⟨k+1,by go_num,by omega,by rw[List.take_succ_eq_append_getElem hltk,HX.out,evParams_snoc];exact H8.out,F8.out⟩
     case measure=>simp[intOf];omega
    ·have hke:k=f.params.length:=by omega
     subst hke;rw[List.take_length] at hat;obtain⟨w6,rfl⟩:∃w6:World,w6=wr:=⟨_,rfl⟩;have hpn:=evParams_n f.params ⟨[],n,0⟩;obtain⟨ap,hap⟩:∃ap,evParams f.params ⟨[],n,0⟩=ap:=⟨_,rfl⟩;rw[hap] at hat hpn;have hpn1:ap.loops=0:=hpn.1;have hpn2:ap.n=n:=hpn.2;have HAP:=Zh hap;clear hap hpn;have HPN1:=Zh hpn1;clear hpn1;have HPN2:=Zh hpn2;clear hpn2;have H6:=Zh hat;clear hat;have RB6:=Zh (Zb RB5.out hfr (HES.out _ (by omega) hrne));have X6:=Zh (Zb X5.out hfr (by rintro(e|e)<;>omega));have F6:=Zh (F5.out.then hfr (S:=Non) fun k hk e=>by rcases e with e|e<;>omega);have RQ6:=Zh (RB5'.out.fr hfr HOKE.out fun _ h=>h);have RE6:=Zh (RE5.out.fr hfr HOKE.out fun _ h=>h);have hz6:W5.heap.size≤w6.heap.size:=hfr.size;have G6:=Zh (G5.out.then hfr fun k hk e=>by rcases e with e|e;exact e;omega);clear hfr f1;have f2:=(Zc X6.out).1 2 _ rfl;go_wp2_with fail
     go_loopw [57] (fun i wr=>∃k:Nat,i= .int .i64 k∧k≤f.body.length∧BlOn wb wb bk (.slice (some ⟨pg,po,none⟩) P.length c) ru P j f.body ap w6 k wr) (fun i _=>f.body.length-(intOf i).toNat)
     case atStart=>exact⟨0,rfl,by omega,ap,bk,rfl,H6.out,Fr.refl _ _,.inl rfl⟩
     case round=>
      obtain⟨k,rfl,hk,ak,bkk,hev,hat,hfr,hbkk⟩:=hrel;have HEV:=Zh hev;have hnk:=evStmts_n ru P j _ ap ak hev;clear hev;have hsz3:=sizes_take_le f.body k;have HF:=Zh hfr;clear hfr;have HB:=Zh hbkk;clear hbkk;have hzr:w6.heap.size≤wr.heap.size:=HF.out.size;by_cases hltk:k<f.body.length
      ·obtain⟨g,o,A1,c1,A2,c2,A3,c3,A4,c4,hA,hd',e0,e1,e2,e3,e4,e5,e6,e7,e8,r1,r2,r3,r4⟩:=at_st (RQ6.out.fr HF.out HOKE.out (fun _ h=>h)) k hltk;subst hA;have HSR:=Zh (⟨r1,r2,r3,r4⟩:StRd ok wr f.body[k] A1 A2 A3 A4 c1 c2 c3 c4);clear r1 r2 r3 r4;have hsz4:=sizes_take f.body k hltk;have hsz5:=sizes_take_le f.body (k+1);have hbn:ak.n≤2000:=by have:=HPN2.out;omega
       have hbn0:0≤ak.n:=by have:=HPN2.out;omega
       have hxok:St.ok f.body[k] 1=true:=oks_at (by have h:=HOKF.out;simp only[okF,Bool.and_eq_true] at h;exact h.1) k hltk;have HXE:=Zh (fun n h=>ests_err (ru:=ru) (P:=P) (F:=j) hltk HEV.out (n:=n) h);have HXO:=Zh (fun a2 h=>ests_ok (ru:=ru) (P:=P) (F:=j) hltk HEV.out (a2:=a2) h);obtain⟨x,hx⟩:∃x,f.body[k]=x:=⟨_,rfl⟩;rw[hx] at e0 e1 e2 e3 e4 e5 e6 e7 e8 HSR hsz4 hxok HXE HXO;clear hx;have HXOK:=Zh hxok;clear hxok;have hkd:=form_facts (sc_form x 1 HXOK.out);have hk1':=hkd.k1;have hk12':=hkd.k12;clear hkd;have b3:=(Zc hat.blk).1 3 _ rfl;have bf:=(Zc hat.blk).2;have hblt:=blk_lt hat.blk;obtain⟨W8,HW8⟩:∃W8,W8=(wr.setCell ⟨wb,3,none⟩ (.int .i64 (ak.n+1))).alloc (.cells #[vu8 x.kind,.string x.name,.string x.frm,.bool x.sec,.bool x.mt,.slice A1 x.ex.length c1,.slice A2 x.args.length c2,.slice A3 x.body.length c3,.slice A4 x.els.length c4] 42):=⟨_,rfl⟩;have hf8:Fr (ES wb bkk) wr W8:=by rw[HW8];exact((Fr.refl _ _).setCell _ _ (.inl (.inl rfl))).alloc _
       have h8:EvAt wb wb (.slice (some ⟨pg,po,none⟩) P.length c) ru j W8 ak.next bkk:=by rw[HW8];exact(hat.setn (ak.n+1)).stay ((Zf _).alloc _)
       have HBX:=Zh (show W8.heap[wr.heap.size]? =some (.cells #[vu8 x.kind,.string x.name,.string x.frm,.bool x.sec,.bool x.mt,.slice A1 x.ex.length c1,.slice A2 x.args.length c2,.slice A3 x.body.length c3,.slice A4 x.els.length c4] 42 (0,0)) by rw[HW8];exact blk_new' (by simp[World.setCell]) _ _);have HF8:=Zh (es_then HF.out HB.out hf8);have F8:=Zh (F6.out.then HF8.out (S:=Non) fun k hk e=>by rcases e with e|e<;>omega);have RB8:=Zh (Zb RB6.out HF8.out (HES.out _ (by omega) hrne));have hst:∀w3,Fr Non W8 w3→Calls Tryz.prog (mK x.kind) #[.pointer (some ⟨wb,0,none⟩),stV x A1 A2 A3 A4 c1 c2 c3 c4] w3 (StE wb wb (.slice (some ⟨pg,po,none⟩) P.length c) ru j w3 bkk (evStmt ru P j x ak.next)):=fun w3 hf3=>
        (emall wb wb ok (some ⟨pg,po,none⟩) c P j ru x.size).1 x 1 A1 A2 A3 A4 c1 c2 c3 c4 w3 ak.next bkk (Nat.le_refl _) HXOK.out (HSR.out.fr (hf8.trans hf3.non) (fun q hq hs=>by
          have h1:=hok q hq;rcases hs with rfl|rfl
          ·omega
          ·have:=hat.hk;omega)) (by show 0≤ak.n+1;omega) (by show ak.n+1+x.size≤_;have:=HPN2.out;omega) (by show 0≤ak.loops;have:=HPN1.out;omega) (by show ak.loops≤((1:Nat):Int);have:=HPN1.out;omega) (h8.stay hf3) ⟨HR.out.fr (F8.out.trans hf3) (fun _ _=>non _) (fun _ h=>h),hc,hlt,hpc,fun q hq=>by have:=hok q hq;omega⟩
       have HST8:=Zh hst;clear hst;have H8:=Zh h8;clear h8;have HMK:=Zh (meth_at x.kind hk1' hk12');have hK:=ent_mK x.kind;clear hf8;go_upto_region 16 with fail;rw[←HW8];clear HW8 b3 bf hblt e0 e1 e2 e3 e4 e5 e6 e7 e8;have y0:=(Zc HBX.out).1 0 _ rfl;have y1:=(Zc HBX.out).1 1 _ rfl;have y2:=(Zc HBX.out).1 2 _ rfl;have y3:=(Zc HBX.out).1 3 _ rfl;have y4:=(Zc HBX.out).1 4 _ rfl;have y5:=(Zc HBX.out).1 5 _ rfl;have y6:=(Zc HBX.out).1 6 _ rfl;have y7:=(Zc HBX.out).1 7 _ rfl;have y8:=(Zc HBX.out).1 8 _ rfl;have hlk:∀w3 (q:Nat),MapK w3 q methL→(Instr.lookup 106 (.map (some q)) (vu8 x.kind) false).run Tryz.prog w3= .ok (.func (.func (mK x.kind)) #[] #[]) w3:=fun w3 q h=>by
        have:=(h.look undMe undU8 zeroMe (x.kind.toNat:Int)).2;rw[HMK.out] at this;exact this
       have HLK:=Zh hlk;clear hlk;have hb1:bkk=bk∨w6.heap.size≤bkk:=HB.out;have hz8:wr.heap.size<W8.heap.size:=blk_lt HBX.out;cases hex:evStmt ru P j x ak.next with
       |error m=>
        rw[hex] at HST8;have HE:=Zh (evWalk_mono ru P m (j+1) P.length (by omega) (HST.out.trans (evFun_e1 HAP.out (HXE.out m hex))));clear hex;refine wp_region_any (by kernel_rfl) ?_
        change wpAny _ _ _ _ _ _ _ (World.drew _)
        refine wpAny_lift (G:=fun a=>a.tmps[4]? =some (.pointer (some ⟨w.heap.size+1,0,none⟩))) (slot_stay (by kernel_rfl)) (fun _ _ h=>h) _ _ _ _ rfl ?_;refine wpAny_take (i:=1) (v:=?_) rfl (by kernel_rfl) (by kernel_rfl) (by kernel_rfl) (fun _ _ _ h=>h) (Or.inl ⟨by rfl,?hy1⟩) ?rst1
        case hy1=>intro w;go_simp;first|done|with_reducible rfl
        case rst1=>
        refine wpAny_take (i:=4) (v:=?_) rfl (by kernel_rfl) (by kernel_rfl) (by kernel_rfl) (fun _ _ _ h=>h) (Or.inl ⟨by rfl,?hy4⟩) ?rst4
        case hy4=>intro w;go_simp;first|done|with_reducible rfl
        case rst4=>
        refine wpAny_ready (rs:=[0,2,5]) (by kernel_rfl) (by simp) (AllReady.cons rfl (fun K hK=>?b1) (AllReady.cons rfl (fun K hK=>?b2) (AllReady.cons rfl (fun K hK=>?b3) AllReady.nil)))
        case b1=>
         go_simp;refine(emeth_any W8.drew).mono ?_;rintro e w3 ⟨rfl,hm3,hf3⟩;have hlk:=HLK.out w3 W8.heap.size hm3;have hz:=(Zf W8).drew.trans hf3;have z0:=hz.cell' y0 (non _);have z1:=hz.cell' y1 (non _);have z2:=hz.cell' y2 (non _);have z3:=hz.cell' y3 (non _);have z4:=hz.cell' y4 (non _);have z5:=hz.cell' y5 (non _);have z6:=hz.cell' y6 (non _);have z7:=hz.cell' y7 (non _);have z8:=hz.cell' y8 (non _)
         simp only[];refine hK _ _ ?_;clear hK K;refine wpAny_ready (rs:=[2,5]) (by kernel_rfl) (by simp) (AllReady.cons rfl (fun K hK=>?b4) (AllReady.cons rfl (fun K hK=>?b5) AllReady.nil))
         case b4=>
          go_simp;refine hK _ _ ?_;clear hK K;refine wpAny_ready (rs:=[3,5]) (by kernel_rfl) (by simp) (AllReady.cons rfl (fun K hK=>?b6) (AllReady.cons rfl (fun K hK=>?b7) AllReady.nil))
          case b6=>
           go_simp;refine hK _ _ ?_;clear hK K;refine wpAny_ready (rs:=[5]) (by kernel_rfl) (by simp) (AllReady.cons rfl (fun K hK=>?b8) AllReady.nil)
           case b8=>
            go_simp;refine hK _ _ ?_;clear hK K;refine wpAny_ready (rs:=[6]) (by kernel_rfl) (by simp) (AllReady.cons rfl (fun K hK=>?b9) AllReady.nil)
            case b9=>
             go_simp;refine(HST8.out w3 ((Zf W8).drew.trans hf3)).mono ?_;rintro e w4 ⟨rfl,hf4⟩;intro a' hd' ht';exact echeck_end m (codeOf ru) (w.heap.size+1) w4 a' _ hd' ht' (Zb RB8.out (((Zf W8).drew.trans hf3).non.trans hf4) (by rintro(e|e)<;>omega)) fun w'' hf6=>⟨by rw[←HRR.out,evCheckV,HE.out],((F8.out.trans ((Zf W8).drew.trans hf3)).then hf4 (fun k hk e=>by rcases e with e|e<;>omega)).then hf6 (S:=Non) fun k hk e=>by have e:k=w.heap.size+1:=e;omega⟩
          case b7=>
           go_simp;refine hK _ _ ?_;clear hK K;refine wpAny_ready (rs:=[3]) (by kernel_rfl) (by simp) (AllReady.cons rfl (fun K hK=>?b10) AllReady.nil)
           case b10=>
            go_simp;refine hK _ _ ?_;clear hK K;refine wpAny_ready (rs:=[6]) (by kernel_rfl) (by simp) (AllReady.cons rfl (fun K hK=>?b11) AllReady.nil)
            case b11=>
             go_simp;refine(HST8.out w3 ((Zf W8).drew.trans hf3)).mono ?_;rintro e w4 ⟨rfl,hf4⟩;intro a' hd' ht';exact echeck_end m (codeOf ru) (w.heap.size+1) w4 a' _ hd' ht' (Zb RB8.out (((Zf W8).drew.trans hf3).non.trans hf4) (by rintro(e|e)<;>omega)) fun w'' hf6=>⟨by rw[←HRR.out,evCheckV,HE.out],((F8.out.trans ((Zf W8).drew.trans hf3)).then hf4 (fun k hk e=>by rcases e with e|e<;>omega)).then hf6 (S:=Non) fun k hk e=>by have e:k=w.heap.size+1:=e;omega⟩
         case b5=>
          go_simp;refine hK _ _ ?_;clear hK K;refine wpAny_ready (rs:=[2]) (by kernel_rfl) (by simp) (AllReady.cons rfl (fun K hK=>?b12) AllReady.nil)
          case b12=>
           go_simp;refine hK _ _ ?_;clear hK K;refine wpAny_ready (rs:=[3]) (by kernel_rfl) (by simp) (AllReady.cons rfl (fun K hK=>?b13) AllReady.nil)
           case b13=>
            go_simp;refine hK _ _ ?_;clear hK K;refine wpAny_ready (rs:=[6]) (by kernel_rfl) (by simp) (AllReady.cons rfl (fun K hK=>?b14) AllReady.nil)
            case b14=>
             go_simp;refine(HST8.out w3 ((Zf W8).drew.trans hf3)).mono ?_;rintro e w4 ⟨rfl,hf4⟩;intro a' hd' ht';exact echeck_end m (codeOf ru) (w.heap.size+1) w4 a' _ hd' ht' (Zb RB8.out (((Zf W8).drew.trans hf3).non.trans hf4) (by rintro(e|e)<;>omega)) fun w'' hf6=>⟨by rw[←HRR.out,evCheckV,HE.out],((F8.out.trans ((Zf W8).drew.trans hf3)).then hf4 (fun k hk e=>by rcases e with e|e<;>omega)).then hf6 (S:=Non) fun k hk e=>by have e:k=w.heap.size+1:=e;omega⟩
        case b2=>
         go_simp;refine hK _ _ ?_;clear hK K;refine wpAny_ready (rs:=[0,5]) (by kernel_rfl) (by simp) (AllReady.cons rfl (fun K hK=>?b15) (AllReady.cons rfl (fun K hK=>?b16) AllReady.nil))
         case b15=>
          go_simp;refine(emeth_any W8.drew).mono ?_;rintro e w3 ⟨rfl,hm3,hf3⟩;have hlk:=HLK.out w3 W8.heap.size hm3;have hz:=(Zf W8).drew.trans hf3;have z0:=hz.cell' y0 (non _);have z1:=hz.cell' y1 (non _);have z2:=hz.cell' y2 (non _);have z3:=hz.cell' y3 (non _);have z4:=hz.cell' y4 (non _);have z5:=hz.cell' y5 (non _);have z6:=hz.cell' y6 (non _);have z7:=hz.cell' y7 (non _);have z8:=hz.cell' y8 (non _)
          simp only[];refine hK _ _ ?_;clear hK K;refine wpAny_ready (rs:=[3,5]) (by kernel_rfl) (by simp) (AllReady.cons rfl (fun K hK=>?b17) (AllReady.cons rfl (fun K hK=>?b18) AllReady.nil))
          case b17=>
           go_simp;refine hK _ _ ?_;clear hK K;refine wpAny_ready (rs:=[5]) (by kernel_rfl) (by simp) (AllReady.cons rfl (fun K hK=>?b19) AllReady.nil)
           case b19=>
            go_simp;refine hK _ _ ?_;clear hK K;refine wpAny_ready (rs:=[6]) (by kernel_rfl) (by simp) (AllReady.cons rfl (fun K hK=>?b20) AllReady.nil)
            case b20=>
             go_simp;refine(HST8.out w3 ((Zf W8).drew.trans hf3)).mono ?_;rintro e w4 ⟨rfl,hf4⟩;intro a' hd' ht';exact echeck_end m (codeOf ru) (w.heap.size+1) w4 a' _ hd' ht' (Zb RB8.out (((Zf W8).drew.trans hf3).non.trans hf4) (by rintro(e|e)<;>omega)) fun w'' hf6=>⟨by rw[←HRR.out,evCheckV,HE.out],((F8.out.trans ((Zf W8).drew.trans hf3)).then hf4 (fun k hk e=>by rcases e with e|e<;>omega)).then hf6 (S:=Non) fun k hk e=>by have e:k=w.heap.size+1:=e;omega⟩
          case b18=>
           go_simp;refine hK _ _ ?_;clear hK K;refine wpAny_ready (rs:=[3]) (by kernel_rfl) (by simp) (AllReady.cons rfl (fun K hK=>?b21) AllReady.nil)
           case b21=>
            go_simp;refine hK _ _ ?_;clear hK K;refine wpAny_ready (rs:=[6]) (by kernel_rfl) (by simp) (AllReady.cons rfl (fun K hK=>?b22) AllReady.nil)
            case b22=>
             go_simp;refine(HST8.out w3 ((Zf W8).drew.trans hf3)).mono ?_;rintro e w4 ⟨rfl,hf4⟩;intro a' hd' ht';exact echeck_end m (codeOf ru) (w.heap.size+1) w4 a' _ hd' ht' (Zb RB8.out (((Zf W8).drew.trans hf3).non.trans hf4) (by rintro(e|e)<;>omega)) fun w'' hf6=>⟨by rw[←HRR.out,evCheckV,HE.out],((F8.out.trans ((Zf W8).drew.trans hf3)).then hf4 (fun k hk e=>by rcases e with e|e<;>omega)).then hf6 (S:=Non) fun k hk e=>by have e:k=w.heap.size+1:=e;omega⟩
         case b16=>
          go_simp;refine hK _ _ ?_;clear hK K;refine wpAny_ready (rs:=[0]) (by kernel_rfl) (by simp) (AllReady.cons rfl (fun K hK=>?b23) AllReady.nil)
          case b23=>
           go_simp;refine(emeth_any W8.drew).mono ?_;rintro e w3 ⟨rfl,hm3,hf3⟩;have hlk:=HLK.out w3 W8.heap.size hm3;have hz:=(Zf W8).drew.trans hf3;have z0:=hz.cell' y0 (non _);have z1:=hz.cell' y1 (non _);have z2:=hz.cell' y2 (non _);have z3:=hz.cell' y3 (non _);have z4:=hz.cell' y4 (non _);have z5:=hz.cell' y5 (non _);have z6:=hz.cell' y6 (non _);have z7:=hz.cell' y7 (non _);have z8:=hz.cell' y8 (non _)
           simp only[];refine hK _ _ ?_;clear hK K;refine wpAny_ready (rs:=[3]) (by kernel_rfl) (by simp) (AllReady.cons rfl (fun K hK=>?b24) AllReady.nil)
           case b24=>
            go_simp;refine hK _ _ ?_;clear hK K;refine wpAny_ready (rs:=[6]) (by kernel_rfl) (by simp) (AllReady.cons rfl (fun K hK=>?b25) AllReady.nil)
            case b25=>
             go_simp;refine(HST8.out w3 ((Zf W8).drew.trans hf3)).mono ?_;rintro e w4 ⟨rfl,hf4⟩;intro a' hd' ht';exact echeck_end m (codeOf ru) (w.heap.size+1) w4 a' _ hd' ht' (Zb RB8.out (((Zf W8).drew.trans hf3).non.trans hf4) (by rintro(e|e)<;>omega)) fun w'' hf6=>⟨by rw[←HRR.out,evCheckV,HE.out],((F8.out.trans ((Zf W8).drew.trans hf3)).then hf4 (fun k hk e=>by rcases e with e|e<;>omega)).then hf6 (S:=Non) fun k hk e=>by have e:k=w.heap.size+1:=e;omega⟩
        case b3=>
         go_simp;refine hK _ _ ?_;clear hK K;refine wpAny_ready (rs:=[0,2]) (by kernel_rfl) (by simp) (AllReady.cons rfl (fun K hK=>?b26) (AllReady.cons rfl (fun K hK=>?b27) AllReady.nil))
         case b26=>
          go_simp;refine(emeth_any W8.drew).mono ?_;rintro e w3 ⟨rfl,hm3,hf3⟩;have hlk:=HLK.out w3 W8.heap.size hm3;have hz:=(Zf W8).drew.trans hf3;have z0:=hz.cell' y0 (non _);have z1:=hz.cell' y1 (non _);have z2:=hz.cell' y2 (non _);have z3:=hz.cell' y3 (non _);have z4:=hz.cell' y4 (non _);have z5:=hz.cell' y5 (non _);have z6:=hz.cell' y6 (non _);have z7:=hz.cell' y7 (non _);have z8:=hz.cell' y8 (non _)
          simp only[];refine hK _ _ ?_;clear hK K;refine wpAny_ready (rs:=[2]) (by kernel_rfl) (by simp) (AllReady.cons rfl (fun K hK=>?b28) AllReady.nil)
          case b28=>
           go_simp;refine hK _ _ ?_;clear hK K;refine wpAny_ready (rs:=[3]) (by kernel_rfl) (by simp) (AllReady.cons rfl (fun K hK=>?b29) AllReady.nil)
           case b29=>
            go_simp;refine hK _ _ ?_;clear hK K;refine wpAny_ready (rs:=[6]) (by kernel_rfl) (by simp) (AllReady.cons rfl (fun K hK=>?b30) AllReady.nil)
            case b30=>
             go_simp;refine(HST8.out w3 ((Zf W8).drew.trans hf3)).mono ?_;rintro e w4 ⟨rfl,hf4⟩;intro a' hd' ht';exact echeck_end m (codeOf ru) (w.heap.size+1) w4 a' _ hd' ht' (Zb RB8.out (((Zf W8).drew.trans hf3).non.trans hf4) (by rintro(e|e)<;>omega)) fun w'' hf6=>⟨by rw[←HRR.out,evCheckV,HE.out],((F8.out.trans ((Zf W8).drew.trans hf3)).then hf4 (fun k hk e=>by rcases e with e|e<;>omega)).then hf6 (S:=Non) fun k hk e=>by have e:k=w.heap.size+1:=e;omega⟩
         case b27=>
          go_simp;refine hK _ _ ?_;clear hK K;refine wpAny_ready (rs:=[0]) (by kernel_rfl) (by simp) (AllReady.cons rfl (fun K hK=>?b31) AllReady.nil)
          case b31=>
           go_simp;refine(emeth_any W8.drew).mono ?_;rintro e w3 ⟨rfl,hm3,hf3⟩;have hlk:=HLK.out w3 W8.heap.size hm3;have hz:=(Zf W8).drew.trans hf3;have z0:=hz.cell' y0 (non _);have z1:=hz.cell' y1 (non _);have z2:=hz.cell' y2 (non _);have z3:=hz.cell' y3 (non _);have z4:=hz.cell' y4 (non _);have z5:=hz.cell' y5 (non _);have z6:=hz.cell' y6 (non _);have z7:=hz.cell' y7 (non _);have z8:=hz.cell' y8 (non _)
           simp only[];refine hK _ _ ?_;clear hK K;refine wpAny_ready (rs:=[3]) (by kernel_rfl) (by simp) (AllReady.cons rfl (fun K hK=>?b32) AllReady.nil)
           case b32=>
            go_simp;refine hK _ _ ?_;clear hK K;refine wpAny_ready (rs:=[6]) (by kernel_rfl) (by simp) (AllReady.cons rfl (fun K hK=>?b33) AllReady.nil)
            case b33=>
             go_simp;refine(HST8.out w3 ((Zf W8).drew.trans hf3)).mono ?_;rintro e w4 ⟨rfl,hf4⟩;intro a' hd' ht';exact echeck_end m (codeOf ru) (w.heap.size+1) w4 a' _ hd' ht' (Zb RB8.out (((Zf W8).drew.trans hf3).non.trans hf4) (by rintro(e|e)<;>omega)) fun w'' hf6=>⟨by rw[←HRR.out,evCheckV,HE.out],((F8.out.trans ((Zf W8).drew.trans hf3)).then hf4 (fun k hk e=>by rcases e with e|e<;>omega)).then hf6 (S:=Non) fun k hk e=>by have e:k=w.heap.size+1:=e;omega⟩
       |ok a2=>
        rw[hex] at HST8;have HE:=Zh (HXO.out a2 hex);clear hex;refine wp_nopan ?_
        go_region_with (first|(go_at_call 65;refine(emeth_any W8.drew).mono ?_;rintro e w3 ⟨rfl,hm3,hf3⟩;have hlk:=HLK.out w3 W8.heap.size hm3;have hz:=(Zf W8).drew.trans hf3;have z0:=hz.cell' y0 (non _);have z1:=hz.cell' y1 (non _);have z2:=hz.cell' y2 (non _);have z3:=hz.cell' y3 (non _);have z4:=hz.cell' y4 (non _);have z5:=hz.cell' y5 (non _);have z6:=hz.cell' y6 (non _);have z7:=hz.cell' y7 (non _);have z8:=hz.cell' y8 (non _))|(refine(HST8.out w3 ((Zf W8).drew.trans hf3)).mono ?_;rintro e w4 ⟨bk4,rfl,hf4,h4,hb4⟩))
        all_goals
         refine nopan ?_;have H4:=Zh h4;have HB4:=Zh hb4;have HF4:=Zh (es_then HF8.out HB.out (((Zf W8).drew.trans hf3).non.trans hf4));have hz5:W8.heap.size≤w3.heap.size:=hf3.size;clear hm3 hf3 hlk hz z0 z1 z2 z3 z4 z5 z6 z7 z8 y0 y1 y2 y3 y4 y5 y6 y7 y8 h4 hb4 hf4;go_wp2_with fail;go_roundw
         case rel=>exact⟨k+1,by go_num,by omega,a2,bk4,HE.out,H4.out,HF4.out,by have:=HB.out;have:=HB4.out;omega⟩
         case measure=>simp[intOf];omega
      ·have hke:k=f.body.length:=by omega
       subst hke;have hev:=HEV.out;rw[List.take_length] at hev;obtain⟨w7,rfl⟩:∃w7:World,w7=wr:=⟨_,rfl⟩;have hbn:ak.n≤2000:=by have:=HPN2.out;omega
       have hbn0:0≤ak.n:=by have:=HPN2.out;omega
       have hl0:ak.loops=0:=by have:=HPN1.out;omega
       have hb1:bkk=bk∨w6.heap.size≤bkk:=HB.out;have hat9:=hat.setn (ak.n+1);have b3:=(Zc hat.blk).1 3 _ rfl;have bf:=(Zc hat.blk).2;obtain⟨W9,HW9⟩:∃W9,W9=w7.setCell ⟨wb,3,none⟩ (.int .i64 (ak.n+1)):=⟨_,rfl⟩;have hf9:Fr (ES wb bk) w6 W9:=by rw[HW9];exact HF.out.setCell _ _ (.inl (.inl rfl))
       rw[←HW9] at hat9;have X9:=Zh (Zb X6.out hf9 (by rintro(e|e)<;>omega));have RB9:=Zh (Zb RB6.out hf9 (HES.out _ (by omega) hrne));have F9:=Zh (F6.out.then hf9 (S:=Non) fun k hk e=>by rcases e with e|e<;>omega);have G9:=Zh (G6.out.then hf9 fun k hk e=>by rcases e with e|e;exact e;omega);have RE9:=Zh (RE6.out.fr hf9 HOKE.out fun _ h=>h);have H9:=Zh hat9;clear hf9 hat hat9;have x3:=(Zc X9.out).1 3 _ rfl;have x4:=(Zc X9.out).1 4 _ rfl;have hzr9:w.heap.size+1<W9.heap.size:=blk_lt RB9.out;clear f2;go_upto_region 19 with fail;rw[←HW9];clear HW9 b3 bf;go_wp2_with fail
       go_loopw [86] (fun i wr=>∃k:Nat,i= .int .i64 k∧k≤f.ret.length∧((f.ret.take k).all fun e=>ak.next.into ru e f.sec)=true∧Fr Non W9 wr) (fun i _=>f.ret.length-(intOf i).toNat)
       case atStart=>exact⟨0,rfl,by omega,rfl,Fr.refl _ _⟩
       case round=>
        obtain⟨k,rfl,hk,hal,hfr⟩:=hrel;have HAL:=Zh hal;clear hal;have HFR:=Zh hfr;clear hfr;have x3:=HFR.out.cell' x3 (non _);by_cases hltk:k<f.ret.length
        ·obtain⟨g2,o2,A',c',hB1,hd2,e0,e1,e2,e3,e4,_,_,er⟩:=at_ex (RE9.out.fr HFR.out (fun _ _=>non _) fun _ h=>h) k hltk;subst hB1;obtain⟨x,hx⟩:∃x,f.ret[k]=x:=⟨_,rfl⟩;rw[hx] at e0 e1 e2 e3 e4 er;have hex:exM x=true:=by
          have h:=HOKF.out;simp only[okF,funM,fheadM,Bool.and_eq_true] at h;rw[←hx];exact List.all_eq_true.1 h.2.1.1.2 _ (List.getElem_mem hltk)
         have HX:=Zh hx;clear hx;have HXM:=Zh hex;clear hex;have hal:Fr Non wr (wr.alloc (.cells #[vu8 x.kind,vu64 x.num,.string x.name,vu8 x.op,.slice A' x.kids.length c'] 48)):=(Zf _).alloc _;have x3':=hal.cell' x3 (non _);have HA:=Zh hal;clear hal;have ER:=Zh er;clear er;have hi:=einto_any x f.sec ok A' c' wb wb _ ru j _ ak.next bkk HXM.out (ER.out.fr HA.out (fun _ _=>non _) fun _ h=>h) (H9.out.stay (HFR.out.trans HA.out));have HI:=Zh hi;clear hi;go_wp2_with fail;refine HI.out.mono ?_;rintro r w8 ⟨he,hf8⟩;have F8:=Zh ((HFR.out.trans HA.out).trans hf8);clear hf8;clear x3';cases hq:ak.next.into ru x f.sec with
         |false=>
          rw[hq] at he;obtain rfl:=he.f;clear he;have HE:=Zh (evWalk_mono ru P _ (j+1) P.length (by omega) (HST.out.trans (evFun_e2 HAP.out hev (by
           rw[List.all_eq_false];exact⟨f.ret[k],List.getElem_mem hltk,by rw[HX.out,hq];simp⟩))))
          go_wp2_with fail;exact echeck_fin _ (codeOf ru) (w.heap.size+1) w8 _ _ rfl (Zb RB9.out F8.out (non _)) fun w'' hf6=>⟨by rw[←HRR.out,evCheckV,HE.out];rfl,(F9.out.trans F8.out).then hf6 (S:=Non) fun k hk e=>by have e:k=w.heap.size+1:=e;omega⟩
         |true=>
          rw[hq] at he;obtain rfl:=he.t;clear he;have HQ:=Zh hq;clear hq;go_wp2_with fail;go_roundw
          case rel=>exact⟨k+1,by go_num,by omega,by rw[List.take_succ_eq_append_getElem hltk,List.all_append,HAL.out,HX.out];simp[HQ.out],F8.out⟩
          case measure=>simp[intOf];omega
        ·have hke:k=f.ret.length:=by omega
         subst hke;have hal:=HAL.out;rw[List.take_length] at hal;have HE:=Zh (HST.out.trans (evFun_ok HAP.out hev hal));obtain⟨w8,rfl⟩:∃w8:World,w8=wr:=⟨_,rfl⟩;have h8:=H9.out.stay HFR.out;have b3:w8.cell? ⟨wb,3,none⟩=some (.int .i64 (ak.n+1)):=(Zc h8.blk).1 3 _ rfl;have bf:=(Zc h8.blk).2;have h10:=h8.setn (ak.n+1+1);have H10:=Zh h10.blk;have F10:=Zh ((G9.out.trans HFR.out.non).setCell ⟨wb,3,none⟩ (.int .i64 (ak.n+1+1)) (.inl rfl));clear h10 h8 hal;go_wp2_with fail;go_roundw
         case rel=>exact⟨j+1,_,_,_,by go_num,by omega,HE.out,by rw[←hl0];exact H10.out,F10.out⟩
         case measure=>simp[intOf];omega
  ·have hje:j=P.length:=by omega
   subst hje;have c4:=(Zc hbr4).1 0 _ rfl;have z4:=(Zc hbr4).2 0;have hb5:=blk_set hbr4 0 .nilIface;have HF5:=Zh (show Fr Non w (wr.setCell ⟨w.heap.size+1,0,none⟩ .nilIface) from HFJ.out.setCell _ _ (.inr (Nat.le_succ _)));go_wp2_with fail;refine leaves_cons (f:=63) (args:=#[.pointer (some ⟨w.heap.size+1,0,none⟩)]) (by simp) (by simp[go_sem]) ?_;refine(echeck_idle (w.heap.size+1) _).mono ?_;rintro e u' w'' ⟨rfl,rfl,rfl⟩;have c6:=(Zc hb5).1 0 _ rfl;simp[Leaves,settle,results,Tryz.results41,go_sem,c6];exact⟨by rw[←HRR.out,evCheckV,HWK.out],HF5.out⟩
section
open Go.Extern.Stop Go.Stop Go.Extern
theorem feq (x y:Int) (w:World):(binOp .eql FT (.agg #[.int .i64 x,.int .i64 y]) (.agg #[.int .i64 x,.int .i64 y])).run Tryz.prog w= .ok (.bool true) w:=by
 have u3:=Tryz.underlying3;have a3:=Tryz.isAgg3;have z3:=Tryz.sizeOf3;have u31:=Tryz.underlying32;have a31:=Tryz.isAgg32;have z31:=Tryz.sizeOf32;have hS:Program.underlying Tryz.prog FT=some (.struct (Program.fieldsOf Tryz.prog FT)):=by kernel_rfl
 have hp:Program.stoodInHeld Tryz.prog FT=false:=by kernel_rfl
 rw[run_eql_struct,show(10000:Nat)=9999+1 from rfl,run_equalIn_agg w 9999 FT _ _ hS hp];simp only[Program.fieldsOf,Tryz.underlying34];go_simp
theorem tno (v:Value) (w:World):(Instr.typeAssert (.iface FT v) 30 143 true).run Tryz.prog w= .ok (.tuple #[.nilIface,.bool false]) w:=run_typeAssert_lacksB Tryz.underlying143 (by kernel_rfl) (by kernel_rfl) v 30 w
theorem eqa (v u:Value) (w:World):(binOp .eql 30 (.iface FT v) (.iface 32 u)).run Tryz.prog w= .ok (.bool false) w:=run_eql_iface_types _ _ _ _ Tryz.underlying30 (by decide) w
theorem eqb (x:Int) (w:World):(binOp .eql 30 (.iface 32 (.int .i64 x)) (.iface 32 (.int .i64 x))).run Tryz.prog w= .ok (.bool true) w:=by
 have h:(binOp .eql 30 (.iface 32 (.int .i64 x)) (.iface 32 (.int .i64 x))).run Tryz.prog w= .ok (.bool (x==x)) w:=by kernel_rfl
 rw[h,beq_self_eq_true]
theorem is_hit (x y:Int) (w:World):
  Calls Tryz.prog 40 #[.iface FT (.agg #[.int .i64 x,.int .i64 y]),.iface 32 (.int .i64 y)] w fun ev w'=>ev= .returned (.bool true)∧Fr Non w w':=by
 have h10:=@run_callFunc_extern Tryz.prog 61 _ ReflectliteType.typeOf Tryz.func61 (by kernel_rfl) (by kernel_rfl) (by kernel_rfl) (by kernel_rfl);have h11:=@run_callFunc_extern Tryz.prog 218 _ (ReflectliteType.method (fun t=>do Rtype.noPackHeld "Comparable" t;pure (.bool (←typeInfo t).comparable))) Tryz.func218 (by kernel_rfl) (by kernel_rfl) (by kernel_rfl) (by kernel_rfl);have tO:=fx13e;have mC:=fx10c;have cC:∀w:World,(ReflectliteType.method (fun t=>do Rtype.noPackHeld "Comparable" t;(fun a=>Value.bool a.comparable)<$>typeInfo t) #[.agg #[hdl 32]]).run Tryz.prog w= .ok (.bool true) w:=fun w=>by kernel_rfl
 have ta1:=tno;have ea:=eqa;have eb:=eqb;have ta2:∀w:World,(Instr.typeAssert (.iface FT (.agg #[.int .i64 x,.int .i64 y])) 30 138 true).run Tryz.prog w= .ok (.tuple #[.iface FT (.agg #[.int .i64 x,.int .i64 y]),.bool true]) w:=fun w=>by kernel_rfl
 have mU:∀(w:World),(Go.method 355 FT (.agg #[.int .i64 x,.int .i64 y]) "Unwrap").run Tryz.prog w= .ok (212,.agg #[.int .i64 x,.int .i64 y]) w:=fun w=>by kernel_rfl
 have mi:∀w:World,(Instr.makeInterface 32 (.int .i64 y)).run Tryz.prog w= .ok (.iface 32 (.int .i64 y)) w:=fun w=>by kernel_rfl
 go_enter Tryz.func40,Tryz.ntmps40
 go_wp2
 refine wp_loop_rounds 2 ?_;rw[rounds_succ]
 go_wp2
 rw[rounds_succ]
 go_wp2
 go_ret;exact⟨rfl,(Zf w).alloc _⟩
def errV (r:Int×Int):Value:=if r.2=0 then .nilIface else faultV r.1 r.2
theorem told_any (r:Int×Int) (w:World) (hg:w.cell? ⟨0,0,none⟩=some (rty 30)):
  Calls Tryz.prog 15 #[errV r,.agg #[.int .i64 r.1,.int .i64 r.2]] w fun ev w'=>ev= .returned (.bool true)∧Fr Non w w':=by
 obtain⟨x,y⟩:=r;by_cases hy:y=0
 ·subst hy;simp only[errV,if_true];go_enter Tryz.func15,Tryz.ntmps15;go_wp2_with fail;go_ret;exact⟨rfl,(Zf w).alloc _⟩
 ·simp only[errV,if_neg hy,faultV];have hy':(y==0)=false:=by simpa using hy
  obtain⟨W1,HW1⟩:∃W1,W1=(w.alloc (.cells #[.int .i64 x,.int .i64 y] FT)).alloc (.cells #[.int .i64 0,.int .i64 0] FT):=⟨_,rfl⟩;have hf1:Fr Non w W1:=by rw[HW1];exact((Zf w).alloc _).alloc _
  have hb0:W1.heap[w.heap.size]? =some (.cells #[.int .i64 x,.int .i64 y] FT (0,0)):=by rw[HW1];exact blk_old (blk_new _ _ _)
  have hb1:W1.heap[w.heap.size+1]? =some (.cells #[.int .i64 0,.int .i64 0] FT (0,0)):=by rw[HW1];exact blk_new' (by simp) _ _
  have hg1:=hf1.cell' hg (non _);have HAS:=Zh (as_hit (w.heap.size+1) x y 0 0 W1 hg1 hb1);have HB0:=Zh hb0;clear hb0;have HB1:=Zh hb1;clear hb1;have HF1:=Zh hf1;clear hf1 hg hg1;have hfe:=feq;go_enter Tryz.func15,Tryz.ntmps15;go_upto_region 4 with fail;rw[show((w.alloc (.cells #[.int .i64 x,.int .i64 y] 34)).alloc (.cells #[.int .i64 0,.int .i64 0] 34))=W1 from HW1.symm];clear HW1;go_wp2_with fail;refine HAS.out.mono ?_;rintro e w2 ⟨rfl,hw2⟩;have hfa:Fr (fun k=>k=w.heap.size+1) W1 (asW W1 (w.heap.size+1) x y):=by unfold asW;exact(((((Fr.refl _ W1).alloc _).alloc _).alloc _).alloc _)
  have hf2:Fr (fun k=>k=w.heap.size+1) W1 w2:=by rw[hw2];exact(hfa.setCell _ _ (.inl rfl)).setCell _ _ (.inl rfl)
  have hb2:w2.heap[w.heap.size+1]? =some (.cells #[.int .i64 x,.int .i64 y] FT (0,0)):=by
   rw[hw2];have h0:(asW W1 (w.heap.size+1) x y).heap[w.heap.size+1]? =some (.cells #[.int .i64 0,.int .i64 0] FT (0,0)):=by unfold asW;exact blk_old (blk_old (blk_old (blk_old HB1.out)))
   have:=blk_set (blk_set h0 0 (.int .i64 x)) 1 (.int .i64 y);simpa using this
  have hb3:=Zb HB0.out hf2 (by omega);have HF2:=Zh (show Fr Non w w2 from HF1.out.then hf2 fun k hk e=>by omega);clear hf2 hfa hw2;have c0:=(Zc hb2).1 0 _ rfl;have c1:=(Zc hb2).1 1 _ rfl;have d0:=(Zc hb3).1 0 _ rfl;have d1:=(Zc hb3).1 1 _ rfl;clear hb2 hb3;go_wp2_with fail;refine(is_hit x y w2).mono ?_;rintro e w3 ⟨rfl,hf3⟩;go_wp2_with fail;go_ret;exact⟨rfl,HF2.out.trans hf3⟩
end
theorem scCheck_errV (P:List Fu):scCheckV P=errV (scCheck P):=by
 unfold scCheckV scCheck;cases hm:mayM P
 ·rfl
 ·simp only[if_true];cases hw:scWalk P P.length with
  |ok n=>rfl
  |error x=>simp only[errV,if_neg (scWalk_ne P _ _ hw)]
theorem codeOf_ne (ru:Int):codeOf ru≠0:=by unfold codeOf;split<;>(try split)<;>(try split)<;>decide
theorem evCheck_errV (ru:Int) (P:List Fu):evCheckV ru P=errV (evCheck ru P):=by
 unfold evCheckV evCheck;cases evWalk ru P P.length with
 |ok n=>rfl
 |error x=>simp only[errV,if_neg (codeOf_ne ru)]
theorem lay_no {P:List Fu} {k:Nat} (h:(layM P k).2≠0):layM P (k+1)=layM P k:=by rw[layM,if_pos h]
theorem lay_yes {P:List Fu} {k:Nat} (h:(layM P k).2=0):layM P (k+1)=evCheck (k+1:Nat) P:=by rw[layM,if_neg (by simpa using h)]
theorem may_sizes {P:List Fu} (h:Fu.sizes P≤900):Fu.sizes P≤1099511620000:=by omega
theorem lay0_any (P:List Fu) (ok:Nat→Prop) (A:Option Addr) (c:Nat) (w:World) (hr:RdRows ok w 5 A 0 (P.map Fu.d)) (hc:P.length*96≤reach) (hpc:P.length≤c) (hs:Fu.sizes P≤900) (hok:∀q,ok q→q<w.heap.size):
  Calls Tryz.prog 21 #[.agg #[.slice A P.length c]] w fun e w'=>e= .returned (errV (layM P 0))∧Fr Non w w':=
 (scheck_any P ok A c w hr hc hpc (may_sizes hs) hok).mono fun _ _ h=>⟨by rw[h.1,scCheck_errV];rfl,h.2⟩
theorem lay1_any (P:List Fu) (ok:Nat→Prop) (A:Option Addr) (c:Nat) (w:World) (hr:RdRows ok w 5 A 0 (P.map Fu.d)) (hc:P.length*96≤reach) (hpc:P.length≤c) (hs:Fu.sizes P≤900) (hok:∀q,ok q→q<w.heap.size):
  Calls Tryz.prog 16 #[.agg #[.slice A P.length c]] w fun e w'=>e= .returned (errV (layM P 1))∧Fr Non w w':=by
 obtain⟨W1,HW1⟩:∃W1,W1=w.alloc (.cells #[.slice A P.length c] 24):=⟨_,rfl⟩;have hf1:Fr Non w W1:=by rw[HW1];exact(Zf w).alloc _
 have B1:=Zh (show W1.heap[w.heap.size]? =some (.cells #[.slice A P.length c] 24 (0,0)) by rw[HW1];exact blk_new _ _ _);have R1:=Zh (hr.fr hf1 (fun _ _=>non _) fun _ h=>h);have F1:=Zh hf1;have hok1:=Zh (show∀q,ok q→q<W1.heap.size from fun q hq=>by have:=hok q hq;have:=hf1.size;omega);clear hf1 hr;have x1:=(Zc B1.out).1 0 _ rfl;have HC:=Zh hc;have HPC:=Zh hpc
 clear hc hpc hok;go_enter Tryz.func16,Tryz.ntmps16;go_upto_region 1 with fail;rw[←HW1];clear HW1;go_wp2_with fail;refine(lay0_any P ok A c W1 R1.out HC.out HPC.out hs hok1.out).mono ?_;rintro e w2 ⟨rfl,hf2⟩;have F2:=Zh (F1.out.trans hf2);have R2:=Zh (R1.out.fr hf2 (fun _ _=>non _) fun _ h=>h);have B2:=Zh (Zb B1.out hf2 (non _));have hok2:=Zh (show∀q,ok q→q<w2.heap.size from fun q hq=>by have:=hok1.out q hq;have:=hf2.size;omega);clear hf2 x1;by_cases h0:(layM P 0).2=0
 ·have hm:=(sc_ok (layM_sc 0 h0)).1;rw[show errV (layM P 0)= .nilIface by rw[errV,if_pos h0]];have HL:=Zh (show layM P 1=evCheck 1 P from lay_yes h0);clear h0;have x2:=(Zc B2.out).1 0 _ rfl;go_wp2_with fail;refine(echeck_any 1 P ok A c w2 R2.out HC.out HPC.out hm hok2.out).mono ?_;rintro e w3 ⟨rfl,hf3⟩;have F3:=Zh (F2.out.trans hf3);clear hf3 x2;go_wp2_with fail;go_ret;exact⟨by rw[HL.out,evCheck_errV];rfl,F3.out⟩
 ·rw[show errV (layM P 0)=faultV (layM P 0).1 (layM P 0).2 by rw[errV,if_neg h0]];have HL:=Zh (show errV (layM P 1)=faultV (layM P 0).1 (layM P 0).2 by rw[lay_no h0,errV,if_neg h0]);clear h0;generalize (layM P 0).1=e1 at*;generalize (layM P 0).2=e2 at*;have hne:∀w:World,(binOp .neq 30 (faultV e1 e2) .nilIface).run Tryz.prog w= .ok (.bool true) w:=fun w=>by kernel_rfl
  have heg:∀w:World,(eqGuard .neq 30 (.tmp 6) (.const .nilIface) (faultV e1 e2) .nilIface).run Tryz.prog w= .ok () w:=fun w=>by kernel_rfl
  go_wp2_with fail;go_ret;exact⟨by rw[HL.out];rfl,F2.out⟩
theorem lay2_any (P:List Fu) (ok:Nat→Prop) (A:Option Addr) (c:Nat) (w:World) (hr:RdRows ok w 5 A 0 (P.map Fu.d)) (hc:P.length*96≤reach) (hpc:P.length≤c) (hs:Fu.sizes P≤900) (hok:∀q,ok q→q<w.heap.size):
  Calls Tryz.prog 23 #[.agg #[.slice A P.length c]] w fun e w'=>e= .returned (errV (layM P 2))∧Fr Non w w':=by
 obtain⟨W1,HW1⟩:∃W1,W1=w.alloc (.cells #[.slice A P.length c] 24):=⟨_,rfl⟩;have hf1:Fr Non w W1:=by rw[HW1];exact(Zf w).alloc _
 have B1:=Zh (show W1.heap[w.heap.size]? =some (.cells #[.slice A P.length c] 24 (0,0)) by rw[HW1];exact blk_new _ _ _);have R1:=Zh (hr.fr hf1 (fun _ _=>non _) fun _ h=>h);have F1:=Zh hf1;have hok1:=Zh (show∀q,ok q→q<W1.heap.size from fun q hq=>by have:=hok q hq;have:=hf1.size;omega);clear hf1 hr;have x1:=(Zc B1.out).1 0 _ rfl;have HC:=Zh hc;have HPC:=Zh hpc
 clear hc hpc hok;go_enter Tryz.func23,Tryz.ntmps23;go_upto_region 1 with fail;rw[←HW1];clear HW1;go_wp2_with fail;refine(lay1_any P ok A c W1 R1.out HC.out HPC.out hs hok1.out).mono ?_;rintro e w2 ⟨rfl,hf2⟩;have F2:=Zh (F1.out.trans hf2);have R2:=Zh (R1.out.fr hf2 (fun _ _=>non _) fun _ h=>h);have B2:=Zh (Zb B1.out hf2 (non _));have hok2:=Zh (show∀q,ok q→q<w2.heap.size from fun q hq=>by have:=hok1.out q hq;have:=hf2.size;omega);clear hf2 x1;by_cases h0:(layM P 1).2=0
 ·have hm:=(sc_ok (layM_sc 1 h0)).1;rw[show errV (layM P 1)= .nilIface by rw[errV,if_pos h0]];have HL:=Zh (show layM P 2=evCheck 2 P from lay_yes h0);clear h0;have x2:=(Zc B2.out).1 0 _ rfl;go_wp2_with fail;refine(echeck_any 2 P ok A c w2 R2.out HC.out HPC.out hm hok2.out).mono ?_;rintro e w3 ⟨rfl,hf3⟩;have F3:=Zh (F2.out.trans hf3);clear hf3 x2;go_wp2_with fail;go_ret;exact⟨by rw[HL.out,evCheck_errV];rfl,F3.out⟩
 ·rw[show errV (layM P 1)=faultV (layM P 1).1 (layM P 1).2 by rw[errV,if_neg h0]];have HL:=Zh (show errV (layM P 2)=faultV (layM P 1).1 (layM P 1).2 by rw[lay_no h0,errV,if_neg h0]);clear h0;generalize (layM P 1).1=e1 at*;generalize (layM P 1).2=e2 at*;have hne:∀w:World,(binOp .neq 30 (faultV e1 e2) .nilIface).run Tryz.prog w= .ok (.bool true) w:=fun w=>by kernel_rfl
  have heg:∀w:World,(eqGuard .neq 30 (.tmp 6) (.const .nilIface) (faultV e1 e2) .nilIface).run Tryz.prog w= .ok () w:=fun w=>by kernel_rfl
  go_wp2_with fail;go_ret;exact⟨by rw[HL.out];rfl,F2.out⟩
theorem lay3_any (P:List Fu) (ok:Nat→Prop) (A:Option Addr) (c:Nat) (w:World) (hr:RdRows ok w 5 A 0 (P.map Fu.d)) (hc:P.length*96≤reach) (hpc:P.length≤c) (hs:Fu.sizes P≤900) (hok:∀q,ok q→q<w.heap.size):
  Calls Tryz.prog 26 #[.agg #[.slice A P.length c]] w fun e w'=>e= .returned (errV (layM P 3))∧Fr Non w w':=by
 obtain⟨W1,HW1⟩:∃W1,W1=w.alloc (.cells #[.slice A P.length c] 24):=⟨_,rfl⟩;have hf1:Fr Non w W1:=by rw[HW1];exact(Zf w).alloc _
 have B1:=Zh (show W1.heap[w.heap.size]? =some (.cells #[.slice A P.length c] 24 (0,0)) by rw[HW1];exact blk_new _ _ _);have R1:=Zh (hr.fr hf1 (fun _ _=>non _) fun _ h=>h);have F1:=Zh hf1;have hok1:=Zh (show∀q,ok q→q<W1.heap.size from fun q hq=>by have:=hok q hq;have:=hf1.size;omega);clear hf1 hr;have x1:=(Zc B1.out).1 0 _ rfl;have HC:=Zh hc;have HPC:=Zh hpc
 clear hc hpc hok;go_enter Tryz.func26,Tryz.ntmps26;go_upto_region 1 with fail;rw[←HW1];clear HW1;go_wp2_with fail;refine(lay2_any P ok A c W1 R1.out HC.out HPC.out hs hok1.out).mono ?_;rintro e w2 ⟨rfl,hf2⟩;have F2:=Zh (F1.out.trans hf2);have R2:=Zh (R1.out.fr hf2 (fun _ _=>non _) fun _ h=>h);have B2:=Zh (Zb B1.out hf2 (non _));have hok2:=Zh (show∀q,ok q→q<w2.heap.size from fun q hq=>by have:=hok1.out q hq;have:=hf2.size;omega);clear hf2 x1;by_cases h0:(layM P 2).2=0
 ·have hm:=(sc_ok (layM_sc 2 h0)).1;rw[show errV (layM P 2)= .nilIface by rw[errV,if_pos h0]];have HL:=Zh (show layM P 3=evCheck 3 P from lay_yes h0);clear h0;have x2:=(Zc B2.out).1 0 _ rfl;go_wp2_with fail;refine(echeck_any 3 P ok A c w2 R2.out HC.out HPC.out hm hok2.out).mono ?_;rintro e w3 ⟨rfl,hf3⟩;have F3:=Zh (F2.out.trans hf3);clear hf3 x2;go_wp2_with fail;go_ret;exact⟨by rw[HL.out,evCheck_errV];rfl,F3.out⟩
 ·rw[show errV (layM P 2)=faultV (layM P 2).1 (layM P 2).2 by rw[errV,if_neg h0]];have HL:=Zh (show errV (layM P 3)=faultV (layM P 2).1 (layM P 2).2 by rw[lay_no h0,errV,if_neg h0]);clear h0;generalize (layM P 2).1=e1 at*;generalize (layM P 2).2=e2 at*;have hne:∀w:World,(binOp .neq 30 (faultV e1 e2) .nilIface).run Tryz.prog w= .ok (.bool true) w:=fun w=>by kernel_rfl
  have heg:∀w:World,(eqGuard .neq 30 (.tmp 6) (.const .nilIface) (faultV e1 e2) .nilIface).run Tryz.prog w= .ok () w:=fun w=>by kernel_rfl
  go_wp2_with fail;go_ret;exact⟨by rw[HL.out];rfl,F2.out⟩
theorem lay4_any (P:List Fu) (ok:Nat→Prop) (A:Option Addr) (c:Nat) (w:World) (hr:RdRows ok w 5 A 0 (P.map Fu.d)) (hc:P.length*96≤reach) (hpc:P.length≤c) (hs:Fu.sizes P≤900) (hok:∀q,ok q→q<w.heap.size):
  Calls Tryz.prog 30 #[.agg #[.slice A P.length c]] w fun e w'=>e= .returned (errV (layM P 4))∧Fr Non w w':=by
 obtain⟨W1,HW1⟩:∃W1,W1=w.alloc (.cells #[.slice A P.length c] 24):=⟨_,rfl⟩;have hf1:Fr Non w W1:=by rw[HW1];exact(Zf w).alloc _
 have B1:=Zh (show W1.heap[w.heap.size]? =some (.cells #[.slice A P.length c] 24 (0,0)) by rw[HW1];exact blk_new _ _ _);have R1:=Zh (hr.fr hf1 (fun _ _=>non _) fun _ h=>h);have F1:=Zh hf1;have hok1:=Zh (show∀q,ok q→q<W1.heap.size from fun q hq=>by have:=hok q hq;have:=hf1.size;omega);clear hf1 hr;have x1:=(Zc B1.out).1 0 _ rfl;have HC:=Zh hc;have HPC:=Zh hpc
 clear hc hpc hok;go_enter Tryz.func30,Tryz.ntmps30;go_upto_region 1 with fail;rw[←HW1];clear HW1;go_wp2_with fail;refine(lay3_any P ok A c W1 R1.out HC.out HPC.out hs hok1.out).mono ?_;rintro e w2 ⟨rfl,hf2⟩;have F2:=Zh (F1.out.trans hf2);have R2:=Zh (R1.out.fr hf2 (fun _ _=>non _) fun _ h=>h);have B2:=Zh (Zb B1.out hf2 (non _));have hok2:=Zh (show∀q,ok q→q<w2.heap.size from fun q hq=>by have:=hok1.out q hq;have:=hf2.size;omega);clear hf2 x1;by_cases h0:(layM P 3).2=0
 ·have hm:=(sc_ok (layM_sc 3 h0)).1;rw[show errV (layM P 3)= .nilIface by rw[errV,if_pos h0]];have HL:=Zh (show layM P 4=evCheck 4 P from lay_yes h0);clear h0;have x2:=(Zc B2.out).1 0 _ rfl;go_wp2_with fail;refine(echeck_any 4 P ok A c w2 R2.out HC.out HPC.out hm hok2.out).mono ?_;rintro e w3 ⟨rfl,hf3⟩;have F3:=Zh (F2.out.trans hf3);clear hf3 x2;go_wp2_with fail;go_ret;exact⟨by rw[HL.out,evCheck_errV];rfl,F3.out⟩
 ·rw[show errV (layM P 3)=faultV (layM P 3).1 (layM P 3).2 by rw[errV,if_neg h0]];have HL:=Zh (show errV (layM P 4)=faultV (layM P 3).1 (layM P 3).2 by rw[lay_no h0,errV,if_neg h0]);clear h0;generalize (layM P 3).1=e1 at*;generalize (layM P 3).2=e2 at*;have hne:∀w:World,(binOp .neq 30 (faultV e1 e2) .nilIface).run Tryz.prog w= .ok (.bool true) w:=fun w=>by kernel_rfl
  have heg:∀w:World,(eqGuard .neq 30 (.tmp 6) (.const .nilIface) (faultV e1 e2) .nilIface).run Tryz.prog w= .ok () w:=fun w=>by kernel_rfl
  go_wp2_with fail;go_ret;exact⟨by rw[HL.out];rfl,F2.out⟩
end Go.Proofs.YtpkpgmnbheenbaaGreatDoor
