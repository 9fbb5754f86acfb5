/- Contracts and laws, Mg24 -/
import Derived.Test.YtpkpgmnbheenbaaGreatDoorMg01
import Derived.Test.YtpkpgmnbheenbaaGreatDoorMg07
import Derived.Test.YtpkpgmnbheenbaaGreatDoorMg23
import Derived.Deep.DeepCutAuto
import Derived.Deep.CutBlock
import Derived.StillTailTactics
namespace Go.Proofs.YtpkpgmnbheenbaaGreatDoor
open Go.RowKit
set_option linter.unusedVariables false
set_option linter.unusedSimpArgs false
set_option maxHeartbeats 8000000
set_option maxRecDepth 100000
theorem wkstmt_of (base b:Nat) (ok:Nat→Prop) (PA:Option Addr) (pc:Nat) (P:List Fu) (F:Nat) (ru:Int) (N:Nat) (BK:BkC base b ok PA pc P F ru N):SmC base b ok PA pc P F ru (N+1):=by
 intro x d A1 A2 A3 A4 c1 c2 c3 c4 w s ve vg hN hok hrd hl hF h hP;obtain⟨k,nm,fr,sec,mt,ex,args,body,els⟩:=x;show Calls Tryz.prog 102 #[.pointer (some ⟨b,0,none⟩),.agg #[vu8 k,.string nm,.string fr,.bool sec,.bool mt,.slice A1 ex.length c1,.slice A2 args.length c2,.slice A3 body.length c3,.slice A4 els.length c4]] w _
 have hff:=form_facts (sc_form _ d hok);rw[St.ok_eq] at hok;simp only[Bool.and_eq_true] at hok;have hsz:St.size (.mk k nm fr sec mt ex args body els)=1+St.sizes body+St.sizes els:=St.size_eq _;rw[hsz] at hl hN;obtain⟨⟨_,hokb⟩,hoke⟩:=hok;have hokb:St.oks body (d+1)=true:=hokb;have hoke:St.oks els (d+1)=true:=hoke;have k1:1≤k.toNat:=hff.k1;have k12:k.toNat≤12:=hff.k12;have hex:ex.all exM=true:=hff.exs;have hnx:k.toNat≠11→(ex.length:Int)=nEx k:=fun h=>(hff.other h).2.1;clear hff hsz;obtain⟨⟨_,q1,r1⟩,⟨_,q2,r2⟩,⟨_,q3,r3⟩,⟨_,q4,r4⟩⟩:=hrd;have q1:ex.length*64≤reach:=q1;have q2:args.length*16≤reach:=q2;have q3:body.length*144≤reach:=q3;have q4:els.length*144≤reach:=q4;have r1:RdRows ok w 5 A1 0 (Ex.ds ex):=r1;have r2:RdRows ok w 1 A2 0 (args.map strD):=r2;have r3:RdRows ok w 9 A3 0 (St.ds body):=r3;have r4:RdRows ok w 9 A4 0 (St.ds els):=r4;have hl1:ex.length≤140737488355328:=by unfold reach at q1;omega
 obtain⟨W1,HW1⟩:∃W1,W1=w.alloc (.cells #[vu8 k,.string nm,.string fr,.bool sec,.bool mt,.slice A1 ex.length c1,.slice A2 args.length c2,.slice A3 body.length c3,.slice A4 els.length c4] 42):=⟨_,rfl⟩;have hf1:Fr Non w W1:=by rw[HW1];exact(Zf w).alloc _
 have hb1:W1.heap[w.heap.size]? =some (.cells #[vu8 k,.string nm,.string fr,.bool sec,.bool mt,.slice A1 ex.length c1,.slice A2 args.length c2,.slice A3 body.length c3,.slice A4 els.length c4] 42 (0,0)):=by rw[HW1];exact blk_new _ _ _
 have hfar:=far_new h;have HOKS:=Zh (show∀q,ok q→¬WS b ve vg q from fun q hq hs=>by have h1:=hP.hok q hq;have h2:=(h.lt q hs).1;omega);have HOKB:=Zh (show∀q,ok q→q≠b from fun q hq e=>HOKS.out q hq (.inl e));have hpl:P.length≤140737488355328:=by have:=hP.hc;unfold reach at this;omega
 have M1:=Zh ((Mid.start h).stay hf1);clear h;have HP:=Zh (hP.fr hf1 (fun _ _=>non _));clear hP;have R1:=Zh (r1.fr hf1 (fun _ _=>non _) fun _ h=>h);clear r1;have R2:=Zh (r2.fr hf1 (fun _ _=>non _) fun _ h=>h);clear r2;have R3:=Zh (r3.fr hf1 (fun _ _=>non _) fun _ h=>h);clear r3;have R4:=Zh (r4.fr hf1 (fun _ _=>non _) fun _ h=>h);clear r4 hf1;have s0:=(Zc hb1).1 0 _ rfl;have HB1:=Zh hb1;clear hb1;have hc:s.env.length≤1099511627776:=by have:=hl.env;omega
 have hc1:s.env.length+1≤1099511627776:=by have:=hl.env;omega
 have hc2:s.given.length≤1099511627776:=by have:=hl.giv;omega
 have HL:=Zh hl;clear hl;have HSF:=Zh hF;clear hF;have HEX:=Zh hex;clear hex;have HNX:=Zh hnx;clear hnx;go_enter Tryz.func102,Tryz.ntmps102;go_upto_region 1 with fail;rw[←HW1];clear HW1;have hk:k.toNat=1∨k.toNat=2∨k.toNat=3∨k.toNat=4∨k.toNat=5∨k.toNat=6∨k.toNat=7∨k.toNat=8∨k.toNat=9∨k.toNat=10∨k.toNat=11∨k.toNat=12:=by omega
 rcases hk with kc|kc|kc|kc|kc|kc|kc|kc|kc|kc|kc|kc
 ·have kk:=Zh kc;have f1:((k.toNat:Int)==1)=true:=by rw[kc];rfl
  have hlx:(ex.length:Int)=1:=by rw[HNX.out (by omega),nEx];simp[kc]
  have hx1:0<ex.length:=by omega
  have HS:=Zh (show Wk.stmt ru P (.mk k nm fr sec mt ex args body els) s=(s.opn ru ex[0] sec).give ru (Va.num nm sec true) by rw[stmt_1 ru P k nm fr sec mt ex args body els s kc,exAt_get hx1]);obtain⟨xb,xo,xA,xc,xee,xhb,x0,x1,x2,x3,x4,xp,xq,xr⟩:=at_ex R1.out 0 hx1;subst xee;simp only[Nat.zero_mul,Nat.add_zero] at x0 x1 x2 x3 x4;have hem:exM ex[0]=true:=by rw[←exAt_get hx1];exact exAt_all HEX.out hx1
  have HEM:=Zh hem;clear hem hlx;generalize ex[0]=y at*;have s5:=(Zc HB1.out).1 5 _ rfl;have s3:=(Zc HB1.out).1 3 _ rfl;clear kc;have HR6:=Zh xr;clear xr;go_upto_region 4 with fail
  go_still_tail 7,(by kernel_rfl)
  change wpList _ _ _ _ _ W1.drew
  have M1d:=Zh (M1.out.stay (Zf W1).drew);have HRd:=Zh (HR6.out.fr (Zf W1).drew (fun _ _=>non _) fun _ h=>h);have HBd:=Zh (Zb HB1.out (Zf W1).drew (non _));clear x0 x1 x2 x3 x4 s5 s3;go_wp2_with fail;refine(open_any y sec 1 ok xA xc base b _ ru W1.drew s ve vg HEM.out HRd.out HOKB.out M1d.out.at' hc).mono ?_;rintro e w2 ⟨rfl,hf2,h2⟩;have hkp:=Kp.opn ru s y sec;generalize s.opn ru y sec=t1 at*;have hb2:=Zb HBd.out hf2 (far_b hfar);have M2:=Zh (M1d.out.one hf2 h2);clear hf2 h2;have hcs:t1.env.length≤1099511627776:=by rw[hkp.env];exact hc
  have hgs:t1.given.length≤1099511627776:=by rw[hkp.giv];exact hc2
  clear hkp;have s1:=(Zc hb2).1 1 _ rfl;have s3':=(Zc hb2).1 3 _ rfl;clear hb2;go_wp2_with fail;refine(give_any base b _ ru w2 t1 ve vg (Va.num nm sec true) M2.out.at' hcs hgs).mono ?_;rintro e w3 ⟨rfl,h3⟩;obtain⟨ve3,vg3,m3,_,_⟩:=M2.out.step h3;have M3:=Zh m3;clear m3 h3;go_wp2_with fail
  go_end0
  refine⟨rfl,?_⟩;rw[HS.out];exact M3.out.stp
 ·have kk:=Zh kc;have f1:((k.toNat:Int)==1)=false:=by rw[beq_eq_false_iff_ne];omega
  have f2:((k.toNat:Int)==2)=true:=by rw[kc];rfl
  have hlx:(ex.length:Int)=1:=by rw[HNX.out (by omega),nEx];simp[kc]
  have hx1:0<ex.length:=by omega
  have HS:=Zh (show Wk.stmt ru P (.mk k nm fr sec mt ex args body els) s=(((Wk.sec ru ex[0] s).2.ask ru nm false).2.bad ru 11 (!((Wk.sec ru ex[0] s).2.ask ru nm false).1.set) 8).bad ru 12 ((Wk.sec ru ex[0] s).1&& !((Wk.sec ru ex[0] s).2.ask ru nm false).1.sec) 120 by rw[stmt_2 ru P k nm fr sec mt ex args body els s kc,exAt_get hx1]);obtain⟨xb,xo,xA,xc,xee,xhb,x0,x1,x2,x3,x4,xp,xq,xr⟩:=at_ex R1.out 0 hx1;subst xee;simp only[Nat.zero_mul,Nat.add_zero] at x0 x1 x2 x3 x4;have hem:exM ex[0]=true:=by rw[←exAt_get hx1];exact exAt_all HEX.out hx1
  have HEM:=Zh hem;clear hem hlx;generalize ex[0]=y at*;have s5:=(Zc HB1.out).1 5 _ rfl;clear kc;have HR6:=Zh xr;clear xr;go_wp2_with fail;refine(sec_any y 1 ok xA xc base b _ ru W1 s ve vg HEM.out HR6.out HOKB.out M1.out.at' hc).mono ?_;rintro e w2 ⟨rfl,hf2,h2⟩;have hkp:=Kp.sec ru y s;generalize (Wk.sec ru y s).1=bb at*;generalize (Wk.sec ru y s).2=t1 at*;have hb2:=Zb HB1.out hf2 (far_b hfar);have M2:=Zh (M1.out.one hf2 h2);clear hf2 h2;have hcs:t1.env.length≤1099511627776:=by rw[hkp.env];exact hc
  clear hkp;have s1:=(Zc hb2).1 1 _ rfl;have HB2:=Zh hb2;clear hb2;go_wp2_with fail;refine(ask_any base b _ ru w2 t1 ve vg nm false M2.out.at' hcs).mono ?_;rintro e w3 ⟨rfl,hf3,h3⟩;generalize (t1.ask ru nm false).1=v at*;generalize (t1.ask ru nm false).2=t at*;have M3:=Zh (M2.out.one hf3 h3);clear hf3 h3;have hfv:=far_new M3.out.at';obtain⟨W4,HW4⟩:∃W4,W4=w3.alloc (.cells #[.string v.name,.bool v.buf,.bool v.sec,.bool v.mt,.bool v.own,.bool v.set,.bool v.gone,.int .i64 v.lent,.int .i64 v.loops] 184):=⟨_,rfl⟩;have hf4:Fr Non w3 W4:=by rw[HW4];exact(Zf _).alloc _
  have hv4:W4.heap[w3.heap.size]? =some (.cells #[.string v.name,.bool v.buf,.bool v.sec,.bool v.mt,.bool v.own,.bool v.set,.bool v.gone,.int .i64 v.lent,.int .i64 v.loops] 184 (0,0)):=by rw[HW4];exact blk_new _ _ _
  have M4:=Zh (M3.out.stay hf4);clear hf4;have v2:=(Zc hv4).1 2 _ rfl;have v5:=(Zc hv4).1 5 _ rfl;have HV4:=Zh hv4;clear hv4;unfold Va.v;go_upto_region 9 with fail;rw[←HW4];clear HW4;go_wp2_with fail;refine(bad_any base b _ ru W4 t ve vg 11 _ 8 M4.out.at').mono ?_;rintro e w5 ⟨rfl,hf5,h5⟩;have hv5:=Zb HV4.out hf5 (far_b hfv);have M5:=Zh (M4.out.one hf5 h5);clear hf5 h5 v2 v5;have v2:=(Zc hv5).1 2 _ rfl;clear hv5;generalize t.bad ru 11 (!v.set) 8=t5 at*;cases bb;all_goals
   go_wp2_with fail;refine(bad_any base b _ ru w5 t5 ve vg 12 _ 120 M5.out.at').mono ?_;rintro e w6 ⟨rfl,hf6,h6⟩;have M6:=Zh (M5.out.one hf6 h6);clear hf6 h6;go_wp2_with fail
   go_end0
   refine⟨rfl,?_⟩;rw[HS.out];exact M6.out.stp
 ·have kk:=Zh kc;have f1:((k.toNat:Int)==1)=false:=by rw[beq_eq_false_iff_ne];omega
  have f2:((k.toNat:Int)==2)=false:=by rw[beq_eq_false_iff_ne];omega
  have f3:((k.toNat:Int)==3)=true:=by rw[kc];rfl
  have hlx:(ex.length:Int)=1:=by rw[HNX.out (by omega),nEx];simp[kc]
  have hx1:0<ex.length:=by omega
  have HS:=Zh (show Wk.stmt ru P (.mk k nm fr sec mt ex args body els) s=(s.pub ru ex[0]).give ru (Va.bufv nm sec true true) by rw[stmt_3 ru P k nm fr sec mt ex args body els s kc,exAt_get hx1]);obtain⟨xb,xo,xA,xc,xee,xhb,x0,x1,x2,x3,x4,xp,xq,xr⟩:=at_ex R1.out 0 hx1;subst xee;simp only[Nat.zero_mul,Nat.add_zero] at x0 x1 x2 x3 x4;have hem:exM ex[0]=true:=by rw[←exAt_get hx1];exact exAt_all HEX.out hx1
  have HEM:=Zh hem;clear hem hlx;generalize ex[0]=y at*;have s5:=(Zc HB1.out).1 5 _ rfl;clear kc;have HR6:=Zh xr;clear xr;go_wp2_with fail;refine(public_any y 1 ok xA xc base b _ ru W1 s ve vg HEM.out HR6.out HOKB.out M1.out.at' hc).mono ?_;rintro e w2 ⟨rfl,hf2,h2⟩;have hkp:=Kp.pub ru s y;generalize s.pub ru y=t1 at*;have hb2:=Zb HB1.out hf2 (far_b hfar);have M2:=Zh (M1.out.one hf2 h2);clear hf2 h2;have hcs:t1.env.length≤1099511627776:=by rw[hkp.env];exact hc
  have hgs:t1.given.length≤1099511627776:=by rw[hkp.giv];exact hc2
  clear hkp;have s1:=(Zc hb2).1 1 _ rfl;have s3':=(Zc hb2).1 3 _ rfl;clear hb2;go_wp2_with fail;refine(give_any base b _ ru w2 t1 ve vg (Va.bufv nm sec true true) M2.out.at' hcs hgs).mono ?_;rintro e w3 ⟨rfl,h3⟩;obtain⟨ve3,vg3,m3,_,_⟩:=M2.out.step h3;have M3:=Zh m3;clear m3 h3;go_wp2_with fail
  go_end0
  refine⟨rfl,?_⟩;rw[HS.out];exact M3.out.stp
 ·have kk:=Zh kc;have f1:((k.toNat:Int)==1)=false:=by rw[beq_eq_false_iff_ne];omega
  have f2:((k.toNat:Int)==2)=false:=by rw[beq_eq_false_iff_ne];omega
  have f3:((k.toNat:Int)==3)=false:=by rw[beq_eq_false_iff_ne];omega
  have f4:((k.toNat:Int)==4)=true:=by rw[kc];rfl
  have hlx:(ex.length:Int)=2:=by rw[HNX.out (by omega),nEx];simp[kc]
  have hx1:0<ex.length:=by omega
  have hx2:1<ex.length:=by omega
  have HS:=Zh (show Wk.stmt ru P (.mk k nm fr sec mt ex args body els) s=((Wk.sec ru ex[1] (s.pub ru ex[0])).2.turned ru nm).2.bad ru 12 ((Wk.sec ru ex[1] (s.pub ru ex[0])).1&& !((Wk.sec ru ex[1] (s.pub ru ex[0])).2.turned ru nm).1.sec) 120 by rw[stmt_4 ru P k nm fr sec mt ex args body els s kc,exAt_get hx1,exAt_get hx2]);obtain⟨xb,xo,xA,xc,xee,xhb,x0,x1,x2,x3,x4,xp,xq,xr⟩:=at_ex R1.out 0 hx1;subst xee;simp only[Nat.zero_mul,Nat.add_zero] at x0 x1 x2 x3 x4;have hem:exM ex[0]=true:=by rw[←exAt_get hx1];exact exAt_all HEX.out hx1
  have HEM:=Zh hem;clear hem hlx;have hem:exM ex[1]=true:=by rw[←exAt_get hx2];exact exAt_all HEX.out hx2
  have HEM1:=Zh hem;clear hem;generalize ex[0]=y at*;have s5:=(Zc HB1.out).1 5 _ rfl;clear kc;have HR6:=Zh xr;clear xr;go_wp2_with fail;refine(public_any y 1 ok xA xc base b _ ru W1 s ve vg HEM.out HR6.out HOKB.out M1.out.at' hc).mono ?_;rintro e w9 ⟨rfl,hf9,h9⟩;have hkp9:=Kp.pub ru s y;generalize s.pub ru y=s9 at*;have hb9:=Zb HB1.out hf9 (far_b hfar);have hc9:s9.env.length≤1099511627776:=by rw[hkp9.env];exact hc
  obtain⟨yb,yo,yA,yc,yee,yhb,y0,y1,y2,y3,y4,yp,yq,yr⟩:=at_ex (R1.out.fr hf9 (fun q hq=>HOKB.out q hq) fun _ h=>h) 1 hx2;cases yee;have M9:=Zh (M1.out.one hf9 h9);clear hf9 h9 x0 x1 x2 x3 x4 s5;have HB9:=Zh hb9;clear hb9;have s5:=(Zc HB9.out).1 5 _ rfl;generalize ex[1]=z at*;have HR7:=Zh yr;clear yr;go_wp2_with fail;refine(sec_any z 1 ok yA yc base b _ ru w9 s9 ve vg HEM1.out HR7.out HOKB.out M9.out.at' hc9).mono ?_;rintro e w2 ⟨rfl,hf2,h2⟩;have hkp:=hkp9.trans (Kp.sec ru z s9);generalize (Wk.sec ru z s9).1=bb at*;generalize (Wk.sec ru z s9).2=t1 at*;have hb2:=Zb HB9.out hf2 (far_b hfar);have M2:=Zh (M9.out.one hf2 h2);clear hf2 h2;clear hkp9;have hcs:t1.env.length≤1099511627776:=by rw[hkp.env];exact hc
  clear hkp;have s1:=(Zc hb2).1 1 _ rfl;have HB2:=Zh hb2;clear hb2;go_wp2_with fail;refine(turned_any base b _ ru w2 t1 ve vg nm M2.out.at' hcs).mono ?_;rintro e w3 ⟨rfl,hf3,h3⟩;generalize (t1.turned ru nm).1=v at*;generalize (t1.turned ru nm).2=t at*;have M3:=Zh (M2.out.one hf3 h3);clear hf3 h3;have hfv:=far_new M3.out.at';obtain⟨W4,HW4⟩:∃W4,W4=w3.alloc (.cells #[.string v.name,.bool v.buf,.bool v.sec,.bool v.mt,.bool v.own,.bool v.set,.bool v.gone,.int .i64 v.lent,.int .i64 v.loops] 184):=⟨_,rfl⟩;have hf4:Fr Non w3 W4:=by rw[HW4];exact(Zf _).alloc _
  have hv4:W4.heap[w3.heap.size]? =some (.cells #[.string v.name,.bool v.buf,.bool v.sec,.bool v.mt,.bool v.own,.bool v.set,.bool v.gone,.int .i64 v.lent,.int .i64 v.loops] 184 (0,0)):=by rw[HW4];exact blk_new _ _ _
  have M4:=Zh (M3.out.stay hf4);clear hf4;have v2:=(Zc hv4).1 2 _ rfl;have v5:=(Zc hv4).1 5 _ rfl;have HV4:=Zh hv4;clear hv4;unfold Va.v;go_upto_region 18 with fail;rw[←HW4];clear HW4;generalize t=t5 at*;generalize W4=w5 at*;have M5:=Zh M4.out;cases bb;all_goals
   go_wp2_with fail;refine(bad_any base b _ ru w5 t5 ve vg 12 _ 120 M5.out.at').mono ?_;rintro e w6 ⟨rfl,hf6,h6⟩;have M6:=Zh (M5.out.one hf6 h6);clear hf6 h6;go_wp2_with fail
   go_end0
   refine⟨rfl,?_⟩;rw[HS.out];exact M6.out.stp
 ·have kk:=Zh kc;have f1:((k.toNat:Int)==1)=false:=by rw[beq_eq_false_iff_ne];omega
  have f2:((k.toNat:Int)==2)=false:=by rw[beq_eq_false_iff_ne];omega
  have f3:((k.toNat:Int)==3)=false:=by rw[beq_eq_false_iff_ne];omega
  have f4:((k.toNat:Int)==4)=false:=by rw[beq_eq_false_iff_ne];omega
  have f5:((k.toNat:Int)==5)=true:=by rw[kc];rfl
  have hlx:(ex.length:Int)=1:=by rw[HNX.out (by omega),nEx];simp[kc]
  have hx1:0<ex.length:=by omega
  have HS:=Zh (show Wk.stmt ru P (.mk k nm fr sec mt ex args body els) s=(Wk.block ru P els ((Wk.block ru P body (s.pub ru (exAt ex 0))).back (s.pub ru (exAt ex 0)).env)).join (Wk.block ru P body (s.pub ru (exAt ex 0))).env from stmt_5 ru P k nm fr sec mt ex args body els s kc);clear kc;have s1:=(Zc HB1.out).1 1 _ rfl;have s2:=(Zc HB1.out).1 2 _ rfl;have s3:=(Zc HB1.out).1 3 _ rfl;have s4:=(Zc HB1.out).1 4 _ rfl;have s5:=(Zc HB1.out).1 5 _ rfl;have s6:=(Zc HB1.out).1 6 _ rfl;have s7:=(Zc HB1.out).1 7 _ rfl;have s8:=(Zc HB1.out).1 8 _ rfl;go_wp2_with fail;refine(wkeither_of base b ok PA pc P F ru N BK W1 s ve vg k nm fr sec mt ex body els (d+1) A1 A2 A3 A4 c1 args.length c2 c3 c4 (by omega) hokb (by omega) hoke hx1 HEX.out R1.out q1 R3.out q3 R4.out q4 (HL.out.le (by omega) (by omega)) HSF.out M1.out.at' HP.out).mono ?_;rintro e w2 ⟨rfl,h2⟩;obtain⟨ve2,vg2,m2,_,_⟩:=M1.out.step h2;have M2:=Zh m2;clear m2 h2;go_wp2_with fail
  go_end0
  refine⟨rfl,?_⟩;rw[HS.out];exact M2.out.stp
 ·have kk:=Zh kc;have f1:((k.toNat:Int)==1)=false:=by rw[beq_eq_false_iff_ne];omega
  have f2:((k.toNat:Int)==2)=false:=by rw[beq_eq_false_iff_ne];omega
  have f3:((k.toNat:Int)==3)=false:=by rw[beq_eq_false_iff_ne];omega
  have f4:((k.toNat:Int)==4)=false:=by rw[beq_eq_false_iff_ne];omega
  have f5:((k.toNat:Int)==5)=false:=by rw[beq_eq_false_iff_ne];omega
  have f6:((k.toNat:Int)==6)=true:=by rw[kc];rfl
  have hlx:(ex.length:Int)=1:=by rw[HNX.out (by omega),nEx];simp[kc]
  have hx1:0<ex.length:=by omega
  have HS:=Zh (show Wk.stmt ru P (.mk k nm fr sec mt ex args body els) s=((Wk.stmts ru P body (s.loopIn ru k nm ex)).cut (s.loopIn ru k nm ex).env.length).loopOut (s.pub ru (exAt ex 0)).env.length from stmt_67 ru P k nm fr sec mt ex args body els s (by omega));clear kc;have s1:=(Zc HB1.out).1 1 _ rfl;have s2:=(Zc HB1.out).1 2 _ rfl;have s3:=(Zc HB1.out).1 3 _ rfl;have s4:=(Zc HB1.out).1 4 _ rfl;have s5:=(Zc HB1.out).1 5 _ rfl;have s6:=(Zc HB1.out).1 6 _ rfl;have s7:=(Zc HB1.out).1 7 _ rfl;have s8:=(Zc HB1.out).1 8 _ rfl;go_wp2_with fail;refine(wkloop_of base b ok PA pc P F ru N BK W1 s ve vg k nm fr sec mt ex body (d+1) A1 A2 A3 A4 c1 args.length c2 c3 els.length c4 (by omega) hokb (by have:=kk.out;omega) hx1 HEX.out R1.out q1 R3.out q3 (HL.out.le (by omega) (by omega)) HSF.out M1.out.at' HP.out).mono ?_;rintro e w2 ⟨rfl,h2⟩;obtain⟨ve2,vg2,m2,_,_⟩:=M1.out.step h2;have M2:=Zh m2;clear m2 h2;go_wp2_with fail
  go_end0
  refine⟨rfl,?_⟩;rw[HS.out];exact M2.out.stp
 ·have kk:=Zh kc;have f1:((k.toNat:Int)==1)=false:=by rw[beq_eq_false_iff_ne];omega
  have f2:((k.toNat:Int)==2)=false:=by rw[beq_eq_false_iff_ne];omega
  have f3:((k.toNat:Int)==3)=false:=by rw[beq_eq_false_iff_ne];omega
  have f4:((k.toNat:Int)==4)=false:=by rw[beq_eq_false_iff_ne];omega
  have f5:((k.toNat:Int)==5)=false:=by rw[beq_eq_false_iff_ne];omega
  have f6:((k.toNat:Int)==6)=false:=by rw[beq_eq_false_iff_ne];omega
  have f7:((k.toNat:Int)==7)=true:=by rw[kc];rfl
  have hlx:(ex.length:Int)=1:=by rw[HNX.out (by omega),nEx];simp[kc]
  have hx1:0<ex.length:=by omega
  have HS:=Zh (show Wk.stmt ru P (.mk k nm fr sec mt ex args body els) s=((Wk.stmts ru P body (s.loopIn ru k nm ex)).cut (s.loopIn ru k nm ex).env.length).loopOut (s.pub ru (exAt ex 0)).env.length from stmt_67 ru P k nm fr sec mt ex args body els s (by omega));clear kc;have s1:=(Zc HB1.out).1 1 _ rfl;have s2:=(Zc HB1.out).1 2 _ rfl;have s3:=(Zc HB1.out).1 3 _ rfl;have s4:=(Zc HB1.out).1 4 _ rfl;have s5:=(Zc HB1.out).1 5 _ rfl;have s6:=(Zc HB1.out).1 6 _ rfl;have s7:=(Zc HB1.out).1 7 _ rfl;have s8:=(Zc HB1.out).1 8 _ rfl;go_wp2_with fail;refine(wkloop_of base b ok PA pc P F ru N BK W1 s ve vg k nm fr sec mt ex body (d+1) A1 A2 A3 A4 c1 args.length c2 c3 els.length c4 (by omega) hokb (by have:=kk.out;omega) hx1 HEX.out R1.out q1 R3.out q3 (HL.out.le (by omega) (by omega)) HSF.out M1.out.at' HP.out).mono ?_;rintro e w2 ⟨rfl,h2⟩;obtain⟨ve2,vg2,m2,_,_⟩:=M1.out.step h2;have M2:=Zh m2;clear m2 h2;go_wp2_with fail
  go_end0
  refine⟨rfl,?_⟩;rw[HS.out];exact M2.out.stp
 ·have kk:=Zh kc;have f1:((k.toNat:Int)==1)=false:=by rw[beq_eq_false_iff_ne];omega
  have f2:((k.toNat:Int)==2)=false:=by rw[beq_eq_false_iff_ne];omega
  have f3:((k.toNat:Int)==3)=false:=by rw[beq_eq_false_iff_ne];omega
  have f4:((k.toNat:Int)==4)=false:=by rw[beq_eq_false_iff_ne];omega
  have f5:((k.toNat:Int)==5)=false:=by rw[beq_eq_false_iff_ne];omega
  have f6:((k.toNat:Int)==6)=false:=by rw[beq_eq_false_iff_ne];omega
  have f7:((k.toNat:Int)==7)=false:=by rw[beq_eq_false_iff_ne];omega
  have f8:((k.toNat:Int)==8)=true:=by rw[kc];rfl
  have hlx:(ex.length:Int)=2:=by rw[HNX.out (by omega),nEx];simp[kc]
  have hx1:0<ex.length:=by omega
  have hx2:1<ex.length:=by omega
  have HS:=Zh (show Wk.stmt ru P (.mk k nm fr sec mt ex args body els) s=((Wk.block ru P body ((s.lend1 ru fr mt ex).2.give ru (Va.bufv nm (s.lend1 ru fr mt ex).1.sec mt false))).cut (s.lend1 ru fr mt ex).2.env.length).lend3 fr (s.lend1 ru fr mt ex).1 from stmt_8 ru P k nm fr sec mt ex args body els s kc);clear kc;have s1:=(Zc HB1.out).1 1 _ rfl;have s2:=(Zc HB1.out).1 2 _ rfl;have s3:=(Zc HB1.out).1 3 _ rfl;have s4:=(Zc HB1.out).1 4 _ rfl;have s5:=(Zc HB1.out).1 5 _ rfl;have s6:=(Zc HB1.out).1 6 _ rfl;have s7:=(Zc HB1.out).1 7 _ rfl;have s8:=(Zc HB1.out).1 8 _ rfl;go_wp2_with fail;refine(wklend_of base b ok PA pc P F ru N BK W1 s ve vg k nm fr sec mt ex body (d+1) A1 A2 A3 A4 c1 args.length c2 c3 els.length c4 (by omega) hokb (by omega) HEX.out R1.out q1 R3.out q3 (HL.out.le (by omega) (by omega)) HSF.out M1.out.at' HP.out).mono ?_;rintro e w2 ⟨rfl,h2⟩;obtain⟨ve2,vg2,m2,_,_⟩:=M1.out.step h2;have M2:=Zh m2;clear m2 h2;go_wp2_with fail
  go_end0
  refine⟨rfl,?_⟩;rw[HS.out];exact M2.out.stp
 ·have kk:=Zh kc;have f1:((k.toNat:Int)==1)=false:=by rw[beq_eq_false_iff_ne];omega
  have f2:((k.toNat:Int)==2)=false:=by rw[beq_eq_false_iff_ne];omega
  have f3:((k.toNat:Int)==3)=false:=by rw[beq_eq_false_iff_ne];omega
  have f4:((k.toNat:Int)==4)=false:=by rw[beq_eq_false_iff_ne];omega
  have f5:((k.toNat:Int)==5)=false:=by rw[beq_eq_false_iff_ne];omega
  have f6:((k.toNat:Int)==6)=false:=by rw[beq_eq_false_iff_ne];omega
  have f7:((k.toNat:Int)==7)=false:=by rw[beq_eq_false_iff_ne];omega
  have f8:((k.toNat:Int)==8)=false:=by rw[beq_eq_false_iff_ne];omega
  have f9:((k.toNat:Int)==9)=true:=by rw[kc];rfl
  have HS:=Zh (show Wk.stmt ru P (.mk k nm fr sec mt ex args body els) s=s.move ru nm fr from stmt_9 ru P k nm fr sec mt ex args body els s kc);clear kc;have s1:=(Zc HB1.out).1 1 _ rfl;have s2:=(Zc HB1.out).1 2 _ rfl;have s3:=(Zc HB1.out).1 3 _ rfl;have s4:=(Zc HB1.out).1 4 _ rfl;have s5:=(Zc HB1.out).1 5 _ rfl;have s6:=(Zc HB1.out).1 6 _ rfl;have s7:=(Zc HB1.out).1 7 _ rfl;have s8:=(Zc HB1.out).1 8 _ rfl;go_wp2_with fail;refine(move_any base b _ ru W1 s ve vg k nm fr sec mt A1 A2 A3 A4 ex.length c1 args.length c2 body.length c3 els.length c4 M1.out.at' (HL.out.le (by omega) (by omega))).mono ?_;rintro e w2 ⟨rfl,h2⟩;obtain⟨ve2,vg2,m2,_,_⟩:=M1.out.step h2;have M2:=Zh m2;clear m2 h2;go_wp2_with fail
  go_end0
  refine⟨rfl,?_⟩;rw[HS.out];exact M2.out.stp
 ·have kk:=Zh kc;have f1:((k.toNat:Int)==1)=false:=by rw[beq_eq_false_iff_ne];omega
  have f2:((k.toNat:Int)==2)=false:=by rw[beq_eq_false_iff_ne];omega
  have f3:((k.toNat:Int)==3)=false:=by rw[beq_eq_false_iff_ne];omega
  have f4:((k.toNat:Int)==4)=false:=by rw[beq_eq_false_iff_ne];omega
  have f5:((k.toNat:Int)==5)=false:=by rw[beq_eq_false_iff_ne];omega
  have f6:((k.toNat:Int)==6)=false:=by rw[beq_eq_false_iff_ne];omega
  have f7:((k.toNat:Int)==7)=false:=by rw[beq_eq_false_iff_ne];omega
  have f8:((k.toNat:Int)==8)=false:=by rw[beq_eq_false_iff_ne];omega
  have f9:((k.toNat:Int)==9)=false:=by rw[beq_eq_false_iff_ne];omega
  have f10:((k.toNat:Int)==10)=true:=by rw[kc];rfl
  have hlx:(ex.length:Int)=1:=by rw[HNX.out (by omega),nEx];simp[kc]
  have hx1:0<ex.length:=by omega
  have HS:=Zh (show Wk.stmt ru P (.mk k nm fr sec mt ex args body els) s=(Wk.sec ru ex[0] s).2.give ru (Va.num nm false false) by rw[stmt_10 ru P k nm fr sec mt ex args body els s kc,exAt_get hx1]);obtain⟨xb,xo,xA,xc,xee,xhb,x0,x1,x2,x3,x4,xp,xq,xr⟩:=at_ex R1.out 0 hx1;subst xee;simp only[Nat.zero_mul,Nat.add_zero] at x0 x1 x2 x3 x4;have hem:exM ex[0]=true:=by rw[←exAt_get hx1];exact exAt_all HEX.out hx1
  have HEM:=Zh hem;clear hem hlx;generalize ex[0]=y at*;have s5:=(Zc HB1.out).1 5 _ rfl;clear kc;have HR6:=Zh xr;clear xr;go_wp2_with fail;refine(sec_any y 1 ok xA xc base b _ ru W1 s ve vg HEM.out HR6.out HOKB.out M1.out.at' hc).mono ?_;rintro e w2 ⟨rfl,hf2,h2⟩;have hkp:=Kp.sec ru y s;generalize (Wk.sec ru y s).1=bb at*;generalize (Wk.sec ru y s).2=t1 at*;have hb2:=Zb HB1.out hf2 (far_b hfar);have M2:=Zh (M1.out.one hf2 h2);clear hf2 h2;have hcs:t1.env.length≤1099511627776:=by rw[hkp.env];exact hc
  have hgs:t1.given.length≤1099511627776:=by rw[hkp.giv];exact hc2
  clear hkp;have s1:=(Zc hb2).1 1 _ rfl;clear hb2;go_wp2_with fail;refine(give_any base b _ ru w2 t1 ve vg (Va.num nm false false) M2.out.at' hcs hgs).mono ?_;rintro e w3 ⟨rfl,h3⟩;obtain⟨ve3,vg3,m3,_,_⟩:=M2.out.step h3;have M3:=Zh m3;clear m3 h3;go_wp2_with fail
  go_end0
  refine⟨rfl,?_⟩;rw[HS.out];exact M3.out.stp
 ·have kk:=Zh kc;have f1:((k.toNat:Int)==1)=false:=by rw[beq_eq_false_iff_ne];omega
  have f2:((k.toNat:Int)==2)=false:=by rw[beq_eq_false_iff_ne];omega
  have f3:((k.toNat:Int)==3)=false:=by rw[beq_eq_false_iff_ne];omega
  have f4:((k.toNat:Int)==4)=false:=by rw[beq_eq_false_iff_ne];omega
  have f5:((k.toNat:Int)==5)=false:=by rw[beq_eq_false_iff_ne];omega
  have f6:((k.toNat:Int)==6)=false:=by rw[beq_eq_false_iff_ne];omega
  have f7:((k.toNat:Int)==7)=false:=by rw[beq_eq_false_iff_ne];omega
  have f8:((k.toNat:Int)==8)=false:=by rw[beq_eq_false_iff_ne];omega
  have f9:((k.toNat:Int)==9)=false:=by rw[beq_eq_false_iff_ne];omega
  have f10:((k.toNat:Int)==10)=false:=by rw[beq_eq_false_iff_ne];omega
  have f11:((k.toNat:Int)==11)=true:=by rw[kc];rfl
  have HS:=Zh (show Wk.stmt ru P (.mk k nm fr sec mt ex args body els) s=s.call ru P nm fr ex args from stmt_11 ru P k nm fr sec mt ex args body els s kc);clear kc;have s1:=(Zc HB1.out).1 1 _ rfl;have s2:=(Zc HB1.out).1 2 _ rfl;have s3:=(Zc HB1.out).1 3 _ rfl;have s4:=(Zc HB1.out).1 4 _ rfl;have s5:=(Zc HB1.out).1 5 _ rfl;have s6:=(Zc HB1.out).1 6 _ rfl;have s7:=(Zc HB1.out).1 7 _ rfl;have s8:=(Zc HB1.out).1 8 _ rfl;go_wp2_with fail;refine(call_any base b ok PA pc P F ru W1 s ve vg k nm fr sec mt ex args A1 A2 A3 A4 c1 c2 body.length c3 els.length c4 M1.out.at' (HL.out.le (by omega) (by omega)) HP.out HSF.out HEX.out q1 R1.out q2 R2.out).mono ?_;rintro e w2 ⟨rfl,h2⟩;obtain⟨ve2,vg2,m2,_,_⟩:=M1.out.step h2;have M2:=Zh m2;clear m2 h2;go_wp2_with fail
  go_end0
  refine⟨rfl,?_⟩;rw[HS.out];exact M2.out.stp
 ·have kk:=Zh kc;have f1:((k.toNat:Int)==1)=false:=by rw[beq_eq_false_iff_ne];omega
  have f2:((k.toNat:Int)==2)=false:=by rw[beq_eq_false_iff_ne];omega
  have f3:((k.toNat:Int)==3)=false:=by rw[beq_eq_false_iff_ne];omega
  have f4:((k.toNat:Int)==4)=false:=by rw[beq_eq_false_iff_ne];omega
  have f5:((k.toNat:Int)==5)=false:=by rw[beq_eq_false_iff_ne];omega
  have f6:((k.toNat:Int)==6)=false:=by rw[beq_eq_false_iff_ne];omega
  have f7:((k.toNat:Int)==7)=false:=by rw[beq_eq_false_iff_ne];omega
  have f8:((k.toNat:Int)==8)=false:=by rw[beq_eq_false_iff_ne];omega
  have f9:((k.toNat:Int)==9)=false:=by rw[beq_eq_false_iff_ne];omega
  have f10:((k.toNat:Int)==10)=false:=by rw[beq_eq_false_iff_ne];omega
  have f11:((k.toNat:Int)==11)=false:=by rw[beq_eq_false_iff_ne];omega
  have HS:=Zh (show Wk.stmt ru P (.mk k nm fr sec mt ex args body els) s=s.sealed ru P.length from stmt_12 ru P k nm fr sec mt ex args body els s (by omega));clear kc;go_wp2_with fail;refine(seal_any base b PA P.length pc ru W1 s ve vg M1.out.at' hc hpl).mono ?_;rintro e w2 ⟨rfl,hf2,h2⟩;have M2:=Zh (M1.out.one hf2 h2);clear hf2 h2;go_wp2_with fail
  go_end0
  refine⟨rfl,?_⟩;rw[HS.out];exact M2.out.stp
theorem wkstmt_any (base b:Nat) (ok:Nat→Prop) (PA:Option Addr) (pc:Nat) (P:List Fu) (F:Nat) (ru:Int):∀N,SmC base b ok PA pc P F ru N
 |0=>by
  intro x d A1 A2 A3 A4 c1 c2 c3 c4 w s ve vg hN;rw[St.size_eq] at hN;omega
 |N+1=>wkstmt_of base b ok PA pc P F ru N (wkblock_of base b ok PA pc P F ru N (wkstmt_any base b ok PA pc P F ru N))
theorem Kp.headN (ru:Int) (P:List Fu) (nm:ByteArray) (s:Wk):∀i,Kp s (Wk.headN ru P nm s i)
 |0=>Kp.refl _
 |i+1=>(Kp.headN ru P nm s i).trans (Kp.bad _ _ _ _ _)
theorem Kp.retN (ru:Int) (ret:List Ex) (sec:Bool) (s:Wk):∀i,Kp s (Wk.retN ru ret sec s i)
 |0=>Kp.refl _
 |i+1=>(Kp.retN ru ret sec s i).trans (Kp.opn _ _ _ _)
theorem Gr.paramN (ru:Int) (ps:List Pa) (s:Wk):∀i,Gr i 0 s (Wk.paramN ru ps s i)
 |0=>(Kp.refl _).gr
 |i+1=>(Gr.paramN ru ps s i).trans (Gr.give _ _ _)
theorem Mid.fresh {base b:Nat} {PV:Value} {ru:Int} {w0 w:World} {ve0 vg0:Value} {s:Wk} {ve vg:Value} (h:Mid base b PV ru w0 ve0 vg0 w s ve vg):
  Mid base b PV ru w0 ve0 vg0 ((w.setCell ⟨b,2,none⟩ (.slice none 0 0)).setCell ⟨b,3,none⟩ (.slice none 0 0)) s.fresh (.slice none 0 0) (.slice none 0 0):=by
 have hf:Fr (WS b ve0 vg0) w ((w.setCell ⟨b,2,none⟩ (.slice none 0 0)).setCell ⟨b,3,none⟩ (.slice none 0 0)):=((Fr.refl _ _).setCell _ _ (.inl (.inl rfl))).setCell _ _ (.inl (.inl rfl));refine⟨⟨blk_set (blk_set h.at'.blk 2 _) 3 _,⟨rfl,.inl ⟨rfl,rfl⟩⟩,⟨rfl,.inl ⟨rfl,rfl⟩⟩,by simp[Value.ownBlock],by simp[Value.ownBlock],by simp[Value.ownBlock],h.at'.hb⟩,h.fr.trans hf,fun k hk=>?_⟩;rcases hk with hk|hk|hk
 ·exact .inl (.inl hk)
 ·cases hk
 ·cases hk
theorem wkhead_any (base b:Nat) (ok:Nat→Prop) (PA:Option Addr) (pc:Nat) (P:List Fu) (F:Nat) (ru:Int) (w:World) (s:Wk) (ve vg:Value) (f:Fu) (A1 A2 A3:Option Addr) (c1 n2 c2 n3 c3:Nat)
  (h:WkAt base b (.slice PA P.length pc) ru w s ve vg) (hP:ScP base ok PA pc P F w) (hF:s.f=(F:Int)) (h8:f.params.length≤8) (r1:RdRows ok w 4 A1 0 (f.params.map Pa.d)):
  Calls Tryz.prog 101 #[.pointer (some ⟨b,0,none⟩),.agg #[.string f.name,.slice A1 f.params.length c1,.slice A2 n2 c2,.bool f.sec,.slice A3 n3 c3]] w (WkR base b (.slice PA P.length pc) ru w ve vg (s.head ru P f)):=by
 have hpl:P.length≤140737488355328:=by have:=hP.hc;unfold reach at this;omega
 have hFP:=hP.hF;obtain⟨W1,HW1⟩:∃W1,W1=w.alloc (.cells #[.string f.name,.slice A1 f.params.length c1,.slice A2 n2 c2,.bool f.sec,.slice A3 n3 c3] 53):=⟨_,rfl⟩;have hf1:Fr Non w W1:=by rw[HW1];exact(Zf w).alloc _
 have hb1:W1.heap[w.heap.size]? =some (.cells #[.string f.name,.slice A1 f.params.length c1,.slice A2 n2 c2,.bool f.sec,.slice A3 n3 c3] 53 (0,0)):=by rw[HW1];exact blk_new _ _ _
 have hfar:=far_new h;have HOKS:=Zh (show∀q,ok q→¬WS b ve vg q from fun q hq hs=>by have h1:=hP.hok q hq;have h2:=(h.lt q hs).1;omega);have HP:=Zh hP;clear hP;have R1:=Zh r1;clear r1;have M1:=Zh ((Mid.start h).stay hf1);clear h;have HF1:=Zh hf1;clear hf1;have HB1:=Zh hb1;clear hb1;have hsn:s.f.toNat=F:=by omega
 have HS:=Zh (show s.head ru P f=Wk.paramN ru f.params (Wk.headN ru P f.name s F).fresh f.params.length by rw[Wk.head,hsn]);have HSF:=Zh hF;clear hF hsn;go_enter Tryz.func101,Tryz.ntmps101;go_upto_region 1 with fail;rw[←HW1];clear HW1;go_wp2_with fail
 go_loopw [4] (fun i wr=>∃j:Nat,i= .int .i64 j∧j≤F∧Fr (fun q=>q=b) W1 wr∧WkAt base b (.slice PA P.length pc) ru wr (Wk.headN ru P f.name s j) ve vg) (fun i _=>F-(intOf i).toNat)
 case atStart=>exact⟨0,rfl,by omega,Fr.refl _ _,M1.out.at'⟩
 case round=>
  rename_i KA aA;have HAA:=Zh aA;clear aA;obtain⟨j,rfl,hj,hfr,hw⟩:=hrel;have hkp:=Kp.headN ru P f.name s j;have b1:wr.cell? ⟨b,1,none⟩=some (.int .i64 (F:Int)):=by rw[←HSF.out,←hkp.f];exact(Zc hw.blk).1 1 _ rfl
  have HKP:=Zh hkp;clear hkp;have b0:=(Zc hw.blk).1 0 _ rfl;have hbs:=Zb HB1.out hfr (far_b hfar);have HBS:=Zh hbs;have HW:=Zh hw;clear hw;have HFR:=Zh hfr;by_cases hlt:j<F
  ·obtain⟨b5,o5,B1,d1,B2,d2,B3,d3,rfl,hb5,e0,_⟩:=at_fu (HP.out.rows.fr (HF1.out.non.trans hfr) (fun q hq e=>HOKS.out q hq (.inl e)) (fun _ h=>h)) j (by omega);have hjP:j<P.length:=by omega
   have s0:=(Zc hbs).1 0 _ rfl;have HST:=Zh (show Wk.headN ru P f.name s (j+1)=(Wk.headN ru P f.name s j).bad ru 10 (sq P[j].name f.name) 9 by rw[Wk.headN,List.getD_eq_getElem?_getD,List.getElem?_eq_getElem (by omega),Option.getD_some]);clear hfr hbs;generalize hxn:P[j].name=xn at*;clear hxn;have HWd:=Zh (HW.out.stay (Zf wr).drew);go_upto_region 4 with fail
   go_still_tail 13,(by kernel_rfl)
   change wpList _ _ _ _ _ wr.drew
   clear e0 s0 b0;go_wp2_with fail;refine(bad_any base b _ ru wr.drew _ ve vg 10 _ 9 HWd.out).mono ?_;rintro e w2 ⟨rfl,hf2,h2⟩;rw[tosq] at h2;have HF2:=Zh (HFR.out.trans ((Zf wr).drew.non.trans hf2));clear hf2;have H2:=Zh h2;clear h2;go_wp2_with fail;have aA:=HAA.out;go_roundw
   case rel=>exact⟨j+1,by go_num,by omega,HF2.out,by rw[HST.out];exact H2.out⟩
   case measure=>simp[intOf];omega
  ·obtain rfl:j=F:=by omega
   have M2:=Zh (M1.out.one HFR.out HW.out);generalize Wk.headN ru P f.name s j=t at*;have bf:=(Zc M2.out.at'.blk).2;have b2:=(Zc M2.out.at'.blk).1 2 _ rfl;have b3:=(Zc M2.out.at'.blk).1 3 _ rfl;have aA:=HAA.out;go_upto_region 7 with fail;have HF3:=Zh (show Fr (fun q=>q=b) wr ((wr.setCell ⟨b,2,none⟩ (.slice none 0 0)).setCell ⟨b,3,none⟩ (.slice none 0 0)) from(((Fr.refl (fun q=>q=b) wr).setCell ⟨b,2,none⟩ _ (.inl rfl)).setCell ⟨b,3,none⟩ _ (.inl rfl)));have M3:=Zh M2.out.fresh;generalize (wr.setCell ⟨b,2,none⟩ (.slice none 0 0)).setCell ⟨b,3,none⟩ (.slice none 0 0)=W3 at*;have HB3:=Zh (Zb HBS.out HF3.out (far_b hfar));have hlb3:=blk_lt HB3.out;clear bf b2 b3 b1 b0 hbs hfr;obtain⟨wp,rfl⟩:∃wp:World,wp=wr:=⟨_,rfl⟩;go_wp2_with fail
   go_loopw [5] (fun i wr=>∃(m:Nat) (vem vgm:Value),i= .int .i64 m∧m≤f.params.length∧Mid base b (.slice PA P.length pc) ru w ve vg wr (Wk.paramN ru f.params t.fresh m) vem vgm∧wr.heap[w.heap.size]? =some (.cells #[.string f.name,.slice A1 f.params.length c1,.slice A2 n2 c2,.bool f.sec,.slice A3 n3 c3] 53 (0,0))∧¬WS b vem vgm w.heap.size) (fun i _=>f.params.length-(intOf i).toNat)
   case atStart=>exact⟨0,_,_,rfl,by omega,M3.out,HB3.out,fun hs=>by rcases hs with hs|hs|hs;exact hfar (.inl hs);cases hs;cases hs⟩
   case round=>
    obtain⟨m,vem,vgm,rfl,hm,hmid,hbm,hfm⟩:=hrel;have g1:=(Zc hbm).1 1 _ rfl;have HM:=Zh hmid;clear hmid;have HBM:=Zh hbm;clear hbm;have hgr:=Gr.paramN ru f.params t.fresh m;have hce:(Wk.paramN ru f.params t.fresh m).env.length≤1099511627776:=by have:=hgr.e2;have h0:t.fresh.env.length=0:=rfl;omega
    have hcg:(Wk.paramN ru f.params t.fresh m).given.length≤1099511627776:=by have:=hgr.g2;have h0:t.fresh.given.length=0:=rfl;omega
    clear hgr;by_cases hlt:m<f.params.length
    ·obtain⟨b5,o5,rfl,hb5,y0,y1,y2,y3⟩:=at_pa (R1.out.fr HM.out.fr HOKS.out fun _ h=>h) m hlt;have HST:=Zh (show Wk.paramN ru f.params t.fresh (m+1)=(Wk.paramN ru f.params t.fresh m).give ru ⟨f.params[m].name,f.params[m].buf,f.params[m].sec,f.params[m].mt,false,false,false,0,0⟩ by rw[Wk.paramN,List.getD_eq_getElem?_getD,List.getElem?_eq_getElem hlt,Option.getD_some]);generalize f.params[m]=x at*;obtain⟨W4,HW4⟩:∃W4,W4=wr.alloc (.cells #[.string x.name,.bool x.buf,.bool x.sec,.bool x.mt] 56):=⟨_,rfl⟩;have hf4:Fr Non wr W4:=by rw[HW4];exact(Zf wr).alloc _
     have hb4:W4.heap[wr.heap.size]? =some (.cells #[.string x.name,.bool x.buf,.bool x.sec,.bool x.mt] 56 (0,0)):=by rw[HW4];exact blk_new _ _ _
     have M4:=Zh (HM.out.stay hf4);have HB4:=Zh (Zb HBM.out hf4 (non _));have x0:=(Zc hb4).1 0 _ rfl;have x1:=(Zc hb4).1 1 _ rfl;have x2:=(Zc hb4).1 2 _ rfl;have x3:=(Zc hb4).1 3 _ rfl;clear hf4 hb4;go_upto_region 11 with fail;rw[←HW4];clear HW4;go_wp2_with fail;refine(give_any base b _ ru W4 _ vem vgm ⟨x.name,x.buf,x.sec,x.mt,false,false,false,0,0⟩ M4.out.at' hce hcg).mono ?_;rintro e w5 ⟨rfl,h5⟩;obtain⟨ve5,vg5,m5,hf5,hn5⟩:=M4.out.step h5;have HB5:=Zh (Zb HB4.out hf5 hfm);have hf5':=far_step hfm (blk_lt HB4.out) hn5;have M5:=Zh m5;clear m5 h5 hf5 hn5 x0 x1 x2 x3 y0 y1 y2 y3;go_wp2_with fail;go_roundw
     case rel=>exact⟨m+1,ve5,vg5,by go_num,by omega,by rw[HST.out];exact M5.out,HB5.out,hf5'⟩
     case measure=>simp[intOf];omega
    ·obtain rfl:m=f.params.length:=by omega
     go_wp2_with fail
     go_end0
     refine⟨rfl,?_⟩;rw[HS.out];exact HM.out.stp
def cellN (w:World) (b:Nat):Nat:=match w.cell? ⟨b,1,none⟩ with
 |some (.int _ i)=>i.toNat
 |_=>0
theorem cellN_of {w:World} {b:Nat} {i:Int} (h:w.cell? ⟨b,1,none⟩=some (.int .i64 i)):cellN w b=i.toNat:=by unfold cellN;rw[h]
def Wk.setF (s:Wk) (i:Int):Wk:={s with f:=i}
theorem Mid.setF {base b:Nat} {PV:Value} {ru:Int} {w0 w:World} {ve0 vg0:Value} {s:Wk} {ve vg:Value} (h:Mid base b PV ru w0 ve0 vg0 w s ve vg) (i:Int):Mid base b PV ru w0 ve0 vg0 (w.setCell ⟨b,1,none⟩ (.int .i64 i)) (s.setF i) ve vg:=by
 have hf:Fr (fun k=>k=b) w (w.setCell ⟨b,1,none⟩ (.int .i64 i)):=(Fr.refl _ _).setCell _ _ (.inl rfl);exact h.one hf (h.at'.with hf (blk_set h.at'.blk 1 _) rfl rfl)
structure Inv (i:Nat) (t:Wk):Prop where
 f:t.f=(i:Int)
 n0:0≤t.n
 n1:t.n≤500*(i:Int)
 l:t.loops=0
structure InF (i:Nat) (m:Nat) (t:Wk):Prop where
 f:t.f=(i:Int)
 n0:0≤t.n
 n1:t.n≤500*(i:Int)+m
 l:t.loops=0
 e:t.env.length≤8+m
 g:t.given.length≤8+m
theorem head_in (ru:Int) (P:List Fu) (f:Fu) (t:Wk) (i:Nat) (h:Inv i t) (h8:f.params.length≤8):InF i 0 (t.head ru P f):=by
 have h1:=Kp.headN ru P f.name t t.f.toNat;have h2:=Gr.paramN ru f.params (Wk.headN ru P f.name t t.f.toNat).fresh f.params.length;have h3:(Wk.headN ru P f.name t t.f.toNat).fresh.env.length=0:=rfl;have h4:(Wk.headN ru P f.name t t.f.toNat).fresh.given.length=0:=rfl;have h5:(Wk.headN ru P f.name t t.f.toNat).fresh.n=t.n:=h1.n;have a1:=h2.e2;have a2:=h2.g2;have a3:=h2.n1;have a4:=h2.n2
 have b1:=h.n0;have b2:=h.n1
 exact⟨h2.f.trans (h1.f.trans h.f),by unfold Wk.head;omega,by unfold Wk.head;omega,h2.l.trans (h1.loops.trans h.l),by unfold Wk.head;omega,by unfold Wk.head;omega⟩
theorem InF.gr {i m a k:Nat} {t u:Wk} (h:InF i m t) (g:Gr a k t u) (hk:k≤a):InF i (m+a) u:=
 ⟨g.f.trans h.f,by have:=h.n0;have:=g.n1;omega,by have:=h.n1;have:=g.n2;omega,g.l.trans h.l,by have:=h.e;have:=g.e2;omega,by have:=h.g;have:=g.g2;omega⟩
theorem InF.lim {i m a k:Nat} {t:Wk} (h:InF i m t) (hi:i≤16) (hm:m+a≤1000) (hk:m+k≤1000):Lim a k t:=
 ⟨by have:=h.e;omega,by have:=h.g;omega,h.n0,by have:=h.n1;omega,by rw[h.l];omega,by rw[h.l];omega⟩
theorem next_gr (s:Wk):Gr 0 1 s s.next:=⟨Nat.le_refl _,Nat.le_refl _,Nat.le_refl _,Nat.le_refl _,by show s.n≤s.n+1;omega,by show s.n+1≤s.n+1;omega,rfl,rfl⟩
theorem fun_inv (ru:Int) (P:List Fu) (f:Fu) (t:Wk) (i:Nat) (h:Inv i t) (h8:f.params.length≤8) (hs:St.sizes f.body≤400):Inv (i+1) (Wk.fun1 ru P f t).onF:=by
 have h1:=head_in ru P f t i h h8;have h2:=h1.gr (Gr.stmts ru P f.body _) (Nat.le_refl _);have h3:=h2.gr ((next_gr _).mono (by omega) (Nat.le_refl 1):Gr 1 1 _ _) (Nat.le_refl _);have h4:=h3.gr (Kp.retN ru f.ret f.sec _ f.ret.length).gr (Nat.le_refl _);have h5:=h4.gr ((next_gr _).mono (by omega) (Nat.le_refl 1):Gr 1 1 _ _) (Nat.le_refl _);have a1:=h5.n0;have a2:=h5.n1
 exact⟨by show(Wk.fun1 ru P f t).f+1=_;rw[show(Wk.fun1 ru P f t).f=_ from h5.f];omega,a1,by show(Wk.fun1 ru P f t).n≤_;have a3:(Wk.fun1 ru P f t).n≤_:=a2;omega,h5.l⟩
theorem may_fun {P:List Fu} (hm:mayM P=true) (i:Nat) (hi:i<P.length):okF P[i]=true∧P[i].params.length≤8∧St.sizes P[i].body≤400∧P.length≤16∧P[i].ret.all exM=true∧P[i].ret.length≤1:=by
 simp only[mayM,Bool.and_eq_true,decide_eq_true_eq] at hm;have h1:okF P[i]=true:=by have:=hm.1;rw[List.all_eq_true] at this;exact this _ (List.getElem_mem _)
 have h2:=h1;simp only[okF,funM,fheadM,Bool.and_eq_true,decide_eq_true_eq] at h2;have h3:=fsize_le P i hi;exact⟨h1,h2.2.1.1.1.1.2,by omega,hm.2.1,h2.2.1.1.2,h2.2.1.1.1.2⟩
theorem walk_inv (ru:Int) (P:List Fu) (hm:mayM P=true) (s:Wk) (h0:s.n=0) (h1:s.loops=0):∀i,i≤P.length→Inv i (Wk.walkN ru P s i)
 |0,_=>⟨rfl,by show 0≤s.n;omega,by show s.n≤_;omega,h1⟩
 |i+1,hi=>by
  have ih:=walk_inv ru P hm s h0 h1 i (by omega);obtain⟨_,h8,hs,_⟩:=may_fun hm i (by omega);rw[Wk.walkN,List.getD_eq_getElem?_getD,List.getElem?_eq_getElem (by omega),Option.getD_some];exact fun_inv ru P _ _ i ih h8 hs
theorem wkwalk_any (base b:Nat) (ok:Nat→Prop) (PA:Option Addr) (pc:Nat) (P:List Fu) (ru:Int) (w:World) (s:Wk) (ve vg:Value)
  (h:WkAt base b (.slice PA P.length pc) ru w s ve vg) (hr:RdRows ok w 5 PA 0 (P.map Fu.d)) (hc:P.length*96≤reach) (hpc:P.length≤pc) (hok:∀q,ok q→q<base) (hm:mayM P=true) (h0:s.n=0) (h1:s.loops=0):
  Calls Tryz.prog 67 #[.pointer (some ⟨b,0,none⟩)] w (WkR base b (.slice PA P.length pc) ru w ve vg (Wk.walkN ru P s P.length)):=by
 have hpl:P.length≤140737488355328:=by unfold reach at hc;omega
 have HOKS:=Zh (show∀q,ok q→¬WS b ve vg q from fun q hq hs=>by have h1:=hok q hq;have h2:=(h.lt q hs).1;omega);have HINV:=Zh (walk_inv ru P hm s h0 h1);have HMF:=Zh (fun i hi=>may_fun hm i hi);have HR:=Zh hr;clear hr;have HOK:=Zh hok;clear hok;have M0:=Zh ((Mid.start h).setF 0);have b1:=(Zc h.blk).1 1 _ rfl;have bf:=(Zc h.blk).2;have HM:=Zh hm;clear hm h0 h1;clear h;go_enter Tryz.func67,Tryz.ntmps67;go_wp2_with fail;clear b1 bf;generalize w.setCell ⟨b,1,none⟩ (.int .i64 0)=W0 at*
 go_loopw [] (fun wr=>∃(j:Nat) (vej vgj:Value),j≤P.length∧Mid base b (.slice PA P.length pc) ru w ve vg wr (Wk.walkN ru P s j) vej vgj) (fun wr=>P.length-cellN wr b)
 case atStart=>exact⟨0,_,_,by omega,M0.out⟩
 case round=>
  obtain⟨j,vej,vgj,hj,hmid⟩:=hrel;have hinv:=HINV.out j hj;have b0:=(Zc hmid.at'.blk).1 0 _ rfl;have b1:wr.cell? ⟨b,1,none⟩=some (.int .i64 (j:Int)):=by rw[←hinv.f];exact(Zc hmid.at'.blk).1 1 _ rfl
  have HCN:=Zh (cellN_of b1);have HI:=Zh hinv;clear hinv;have MJ:=Zh hmid;clear hmid;have y0:=ext_cell b0;have y1:=ext_cell b1;have z0:=b0;have z1:=b1;go_upto_region 1 with fail;clear b0 b1;refine wp_region_ext (by kernel_rfl) (by kernel_rfl) ?_
  repeat (go_big_quiet_step (fail))
  refine wpQuiet_nil ?_;intro w2 hf2;clear y0 y1;have M2:=Zh (MJ.out.stay hf2);have b0:=hf2.cell' z0 (non _);have b1:=hf2.cell' z1 (non _);clear z0 z1 hf2;by_cases hlt:j<P.length
  ·obtain⟨g,o,B1,d1,B2,d2,B3,d3,rfl,hg,e0,e1,e2,e3,e4,⟨p1,q1,r1⟩,⟨p2,q2,r2⟩,⟨p3,q3,r3⟩⟩:=at_fu HR.out j hlt;have e0:=M2.out.fr.cell' e0 (HOKS.out g hg);have e1:=M2.out.fr.cell' e1 (HOKS.out g hg);have e2:=M2.out.fr.cell' e2 (HOKS.out g hg);have e3:=M2.out.fr.cell' e3 (HOKS.out g hg);have e4:=M2.out.fr.cell' e4 (HOKS.out g hg);have HMJ:=Zh (HMF.out j hlt);have HST:=Zh (show Wk.walkN ru P s (j+1)=(Wk.fun1 ru P P[j] (Wk.walkN ru P s j)).onF by rw[Wk.walkN,List.getD_eq_getElem?_getD,List.getElem?_eq_getElem hlt,Option.getD_some]);generalize P[j]=f at*;generalize Wk.walkN ru P s j=t at*;have RP1:=Zh r1;clear r1;have RP2:=Zh r2;clear r2;have RP3:=Zh r3;clear r3;have hl2:f.body.length≤140737488355328:=by unfold reach at q2;omega
   have hl3:f.ret.length≤140737488355328:=by unfold reach at q3;omega
   have hbl:b<w2.heap.size:=blk_lt M2.out.at'.blk;have hgl:g<w2.heap.size:=by have:=HOK.out g hg;have:=M2.out.at'.hb;omega
   go_upto_region 3 with fail
   go_region
   have hf3:Fr Non w2 (w2.alloc (.cells #[.string f.name,.slice B1 f.params.length d1,.slice B2 f.body.length d2,.bool f.sec,.slice B3 f.ret.length d3] 53)).drew:=((Zf _).alloc _).drew;have hb3:(w2.alloc (.cells #[.string f.name,.slice B1 f.params.length d1,.slice B2 f.body.length d2,.bool f.sec,.slice B3 f.ret.length d3] 53)).drew.heap[w2.heap.size]? =some (.cells #[.string f.name,.slice B1 f.params.length d1,.slice B2 f.body.length d2,.bool f.sec,.slice B3 f.ret.length d3] 53 (0,0)):=blk_new _ _ _;generalize (w2.alloc (.cells #[.string f.name,.slice B1 f.params.length d1,.slice B2 f.body.length d2,.bool f.sec,.slice B3 f.ret.length d3] 53)).drew=W3 at*;have hfar:=far_new M2.out.at';have hw2:w.heap.size≤w2.heap.size:=M2.out.fr.size;have M3:=Zh (M2.out.stay hf3);clear b0 b1 e0 e1 e2 e3 e4;have g0:=(Zc hb3).1 0 _ rfl;have g1:=(Zc hb3).1 1 _ rfl;have g2:=(Zc hb3).1 2 _ rfl;have g3:=(Zc hb3).1 3 _ rfl;have g4:=(Zc hb3).1 4 _ rfl;have HB3:=Zh hb3;clear hb3;have HSC:=Zh (fun(w':World) (hf':Fr (WS b ve vg) w w')=>(⟨HR.out.fr hf' HOKS.out fun _ h=>h,hc,hlt,hpc,HOK.out⟩:ScP base ok (some ⟨g,o,none⟩) pc P j w'));have HR1:=Zh (RP1.out.fr M3.out.fr HOKS.out fun _ h=>h);clear hf3;go_wp2_with fail;refine(wkhead_any base b ok (some ⟨g,o,none⟩) pc P j ru W3 t vej vgj f B1 B2 B3 d1 f.body.length d2 f.ret.length d3 M3.out.at' (HSC.out _ M3.out.fr) HI.out.f HMJ.out.2.1 HR1.out).mono ?_;rintro e w4 ⟨rfl,h4⟩;have HIN:=Zh (head_in ru P f t j HI.out HMJ.out.2.1);have HFU:=Zh (show Wk.fun1 ru P f t=(Wk.stmts ru P f.body (t.head ru P f)).tail ru f from rfl);generalize t.head ru P f=th at*;obtain⟨ve4,vg4,m4,hf4,hn4⟩:=M3.out.step h4;have HB4:=Zh (Zb HB3.out hf4 hfar);have hfar4:=far_step hfar (blk_lt HB3.out) hn4;have M4:=Zh m4;clear m4 h4 hf4 hn4 g0 g1 g2 g3 g4;obtain⟨wp,rfl⟩:∃wp:World,wp=wr:=⟨_,rfl⟩;go_wp2_with fail
   go_loopw [3] (fun i wr=>∃(m:Nat) (vem vgm:Value),i= .int .i64 m∧m≤f.body.length∧Mid base b (.slice (some ⟨g,o,none⟩) P.length pc) ru w ve vg wr (Wk.stmts ru P (f.body.take m) th) vem vgm∧wr.heap[w2.heap.size]? =some (.cells #[.string f.name,.slice B1 f.params.length d1,.slice B2 f.body.length d2,.bool f.sec,.slice B3 f.ret.length d3] 53 (0,0))∧¬WS b vem vgm w2.heap.size) (fun i _=>f.body.length-(intOf i).toNat)
   case atStart=>exact⟨0,_,_,rfl,by omega,by rw[List.take_zero,Wk.stmts];exact M4.out,HB4.out,hfar4⟩
   case round=>
    rename_i KB aB;obtain⟨m,vem,vgm,rfl,hm,hmid,hbm,hfm⟩:=hrel;have MM:=Zh hmid;clear hmid;have HBM:=Zh hbm;have g2:=(Zc hbm).1 2 _ rfl;by_cases hlm:m<f.body.length
    ·obtain⟨gs,os,A1,c1,A2,c2,A3,c3,A4,c4,rfl,hd,e0,e1,e2,e3,e4,e5,e6,e7,e8,r1,r2,r3,r4⟩:=at_st (RP2.out.fr MM.out.fr HOKS.out fun _ h=>h) m hlm;have HSR:=Zh (⟨r1,r2,r3,r4⟩:StRd ok wr f.body[m] A1 A2 A3 A4 c1 c2 c3 c4);clear r1 r2 r3 r4;have hsz1:=sizes_take_le f.body m;have hsz2:=sizes_take f.body m hlm;have hsz3:=sizes_take_le f.body (m+1);have hs400:=HMJ.out.2.2.1;have hj16:j≤16:=by have:=HMJ.out.2.2.2.1;omega
     have HST2:=Zh (show Wk.stmts ru P (f.body.take (m+1)) th=Wk.stmt ru P f.body[m] (Wk.stmts ru P (f.body.take m) th).next by rw[take_snoc f.body m hlm,stmts_snoc]);have hxok:St.ok f.body[m] 1=true:=oks_at (by have:=HMJ.out.1;simp only[okF,Bool.and_eq_true] at this;exact this.1) m hlm;have hin:=HIN.out.gr (Gr.stmts ru P (f.body.take m) th) (Nat.le_refl _);have b4:=(Zc MM.out.at'.blk).1 4 _ rfl;have bf:=(Zc MM.out.at'.blk).2;generalize f.body[m]=x at*;have HXOK:=Zh hxok;clear hxok;generalize Wk.stmts ru P (f.body.take m) th=tm at*;have hln:Lim x.size (x.size-1) tm.next:=by
      have h9:=(hin.lim hj16 (a:=x.size) (k:=x.size-1+1) (by omega) (by omega));exact h9.next
     have hn0:=hin.n0;have hn1:=hin.n1;have HLN:=Zh hln;clear hln;have HFX:=Zh (show tm.next.f=(j:Int) from hin.f);clear hin;have hblm:=blk_lt MM.out.at'.blk;obtain⟨W5,HW5⟩:∃W5,W5=wr.setCell ⟨b,4,none⟩ (.int .i64 (tm.n+1)):=⟨_,rfl⟩;have M5:=Zh (show Mid base b (.slice (some ⟨g,o,none⟩) P.length pc) ru w ve vg W5 tm.next vem vgm by rw[HW5];exact MM.out.next rfl);have hf5:Fr (fun k=>k=b) wr W5:=by rw[HW5];exact(Fr.refl _ _).setCell _ _ (.inl rfl)
     have hgb:gs≠b:=fun e=>HOKS.out gs hd (.inl e);have HB5:=Zh (Zb HBM.out hf5 (far_b hfm));have HF5:=Zh hf5;clear hf5;go_upto_region 9 with fail;rw[←HW5];clear HW5;have e0:=HF5.out.cell' e0 hgb;have e1:=HF5.out.cell' e1 hgb;have e2:=HF5.out.cell' e2 hgb;have e3:=HF5.out.cell' e3 hgb;have e4:=HF5.out.cell' e4 hgb;have e5:=HF5.out.cell' e5 hgb;have e6:=HF5.out.cell' e6 hgb;have e7:=HF5.out.cell' e7 hgb;have e8:=HF5.out.cell' e8 hgb;clear b4 bf g2;have g2:=(Zc HB5.out).1 2 _ rfl;go_wp2_with fail;refine(wkstmt_any base b ok (some ⟨g,o,none⟩) pc P j ru x.size x 1 A1 A2 A3 A4 c1 c2 c3 c4 W5 tm.next vem vgm (Nat.le_refl _) HXOK.out (HSR.out.fr HF5.out fun q hq e=>HOKS.out q hq (.inl e)) HLN.out HFX.out M5.out.at' (HSC.out _ M5.out.fr)).mono ?_;rintro e w6 ⟨rfl,h6⟩;obtain⟨ve6,vg6,m6,hf6,hn6⟩:=M5.out.step h6;have HB6:=Zh (Zb HB5.out hf6 hfm);have hfar6:=far_step hfm (blk_lt HB5.out) hn6;have M6:=Zh m6;clear m6 h6 hf6 hn6 e0 e1 e2 e3 e4 e5 e6 e7 e8 g2;go_wp2_with fail;go_roundw
     case rel=>exact⟨m+1,ve6,vg6,by go_num,by omega,by rw[HST2.out];exact M6.out,HB6.out,hfar6⟩
     case measure=>simp[intOf];omega
    ·obtain rfl:m=f.body.length:=by omega
     rw[List.take_length] at MM;have hin:=HIN.out.gr (Gr.stmts ru P f.body th) (Nat.le_refl _);have hs400:=HMJ.out.2.2.1;have hj16:j≤16:=by have:=HMJ.out.2.2.2.1;omega
     generalize Wk.stmts ru P f.body th=tb at*;have b4:=(Zc MM.out.at'.blk).1 4 _ rfl;have bf:=(Zc MM.out.at'.blk).2;have hn0:=hin.n0;have hn1:=hin.n1;have HN:=Zh hin;clear hin;have hblm:=blk_lt MM.out.at'.blk;obtain⟨W7,HW7⟩:∃W7,W7=wr.setCell ⟨b,4,none⟩ (.int .i64 (tb.n+1)):=⟨_,rfl⟩;have M7:=Zh (show Mid base b (.slice (some ⟨g,o,none⟩) P.length pc) ru w ve vg W7 tb.next vem vgm by rw[HW7];exact MM.out.next rfl);have hf7:Fr (fun k=>k=b) wr W7:=by rw[HW7];exact(Fr.refl _ _).setCell _ _ (.inl rfl)
     have HB7:=Zh (Zb HBM.out hf7 (far_b hfm));clear hf7;go_upto_region 11 with fail;rw[←HW7];clear HW7;clear b4 bf g2 hbm;obtain⟨wq,rfl⟩:∃wq:World,wq=wr:=⟨_,rfl⟩;go_wp2_with fail
     go_loopw [4] (fun i wr=>∃m:Nat,i= .int .i64 m∧m≤f.ret.length∧Mid base b (.slice (some ⟨g,o,none⟩) P.length pc) ru w ve vg wr (Wk.retN ru f.ret f.sec tb.next m) vem vgm∧wr.heap[w2.heap.size]? =some (.cells #[.string f.name,.slice B1 f.params.length d1,.slice B2 f.body.length d2,.bool f.sec,.slice B3 f.ret.length d3] 53 (0,0))) (fun i _=>f.ret.length-(intOf i).toNat)
     case atStart=>exact⟨0,rfl,by omega,M7.out,HB7.out⟩
     case round=>
      rename_i KC aC;obtain⟨m,rfl,hm3,hmid,hbm⟩:=hrel;have MR:=Zh hmid;clear hmid;have HBR:=Zh hbm;have HKR:=Zh (Kp.retN ru f.ret f.sec tb.next m);have g4:=(Zc hbm).1 4 _ rfl;by_cases hlr:m<f.ret.length
      ·obtain⟨b6,o6,A6,c6,rfl,hb6,x0,x1,x2,x3,x4,p6,q6,r6⟩:=at_ex (RP3.out.fr MR.out.fr HOKS.out fun _ h=>h) m hlr;have hem:exM f.ret[m]=true:=by have:=HMJ.out.2.2.2.2.1;rw[List.all_eq_true] at this;exact this _ (List.getElem_mem hlr)
       have HEM:=Zh hem;clear hem;have HST3:=Zh (show Wk.retN ru f.ret f.sec tb.next (m+1)=(Wk.retN ru f.ret f.sec tb.next m).opn ru f.ret[m] f.sec by rw[Wk.retN,List.getD_eq_getElem?_getD,List.getElem?_eq_getElem hlr,Option.getD_some]);generalize f.ret[m]=y at*;have g3:=(Zc hbm).1 3 _ rfl;have HR6:=Zh (r6.fr (Zf wr).drew (fun _ _=>non _) fun _ h=>h);clear r6 hbm;have MRd:=Zh (MR.out.stay (Zf wr).drew);have HBd:=Zh (Zb HBR.out (Zf wr).drew (non _));have hcr:(Wk.retN ru f.ret f.sec tb.next m).env.length≤1099511627776:=by
        rw[HKR.out.env];show tb.env.length≤_;have:=HN.out.e;omega
       go_upto_region 14 with fail
       go_still_tail 8,(by kernel_rfl)
       change wpList _ _ _ _ _ wr.drew
       clear x0 x1 x2 x3 x4 g3 g4;go_wp2_with fail;refine(open_any y f.sec 1 ok A6 c6 base b _ ru wr.drew _ vem vgm HEM.out HR6.out (fun q hq e=>HOKS.out q hq (.inl e)) MRd.out.at' hcr).mono ?_;rintro e w8 ⟨rfl,hf8,h8⟩;have HB8:=Zh (Zb HBd.out hf8 (far_b hfm));have M8:=Zh (MRd.out.one hf8 h8);clear hf8 h8;go_wp2_with fail;go_roundw
       case rel=>exact⟨m+1,by go_num,by omega,by rw[HST3.out];exact M8.out,HB8.out⟩
       case measure=>simp[intOf];omega
      ·obtain rfl:m=f.ret.length:=by omega
       have hn:=HKR.out.n;have hin:=((HN.out.gr ((next_gr tb).mono (by omega) (Nat.le_refl 1):Gr 1 1 _ _) (Nat.le_refl _)).gr HKR.out.gr (Nat.le_refl _));have hff:=hin.f;have hn0:=hin.n0;have hn1:=hin.n1;clear hin hn;have HFU2:=Zh (show Wk.fun1 ru P f t=(Wk.retN ru f.ret f.sec tb.next f.ret.length).next from HFU.out);generalize Wk.retN ru f.ret f.sec tb.next f.ret.length=tr at*;have b4:=(Zc MR.out.at'.blk).1 4 _ rfl;have b1:wr.cell? ⟨b,1,none⟩=some (.int .i64 (j:Int)):=by rw[←hff];exact(Zc MR.out.at'.blk).1 1 _ rfl
       have bf:=(Zc MR.out.at'.blk).2;have HFF:=Zh hff;clear hff;obtain⟨W9,HW9⟩:∃W9,W9=wr.setCell ⟨b,4,none⟩ (.int .i64 (tr.n+1)):=⟨_,rfl⟩;have M9:=Zh (show Mid base b (.slice (some ⟨g,o,none⟩) P.length pc) ru w ve vg W9 tr.next vem vgm by rw[HW9];exact MR.out.next rfl);have hf9:Fr (fun k=>k=b) wr W9:=by rw[HW9];exact(Fr.refl _ _).setCell _ _ (.inl rfl)
       have hj16:j≤16:=by have:=HMJ.out.2.2.2.1;omega
       go_wp2_with fail;rw[←HW9];have M10:=Zh (M9.out.setF ((j:Int)+1));have he:Wk.walkN ru P s (j+1)=tr.next.setF ((j:Int)+1):=by
        rw[HST.out,HFU2.out];show({tr.next with f:=tr.f+1}:Wk)={tr.next with f:=(j:Int)+1}
        rw[HFF.out]
       refine⟨⟨j+1,vem,vgm,by omega,by rw[he];exact M10.out⟩,?_⟩;rw[HCN.out,cellN_of ((Zc M10.out.at'.blk).1 1 _ rfl)];show P.length-((j:Int)+1).toNat<P.length-((j:Int)).toNat
       omega
  ·obtain rfl:j=P.length:=by omega
   go_wp2_with fail
   go_end0
   exact⟨rfl,M2.out.stp⟩
theorem refN_stay (P:List Fu) (i:Nat) (h:(refN P i).2≠0):∀j,refN P (i+j)=refN P i
 |0=>rfl
 |j+1=>by
  have ih:=refN_stay P i h j;show refN P (i+j+1)=_
  rw[refN,if_pos (by rw[ih];exact h),ih]
theorem refN_next (P:List Fu) (i:Nat) (h:refN P i=(0,0)):refN P (i+1)=if(Wk.walk ((10+i:Nat):Int) P).fine then(0,0) else((Wk.walk ((10+i:Nat):Int) P).fat,(Wk.walk ((10+i:Nat):Int) P).ferr):=by
 rw[refN,h,if_neg (by simp)]
theorem WkAt.made {b:Nat} {PV:Value} {ru:Int} {w:World} (h:w.heap[b]? =some (.cells #[PV,.int .i64 0,.slice none 0 0,.slice none 0 0,.int .i64 0,.int .i64 0,.int .i64 0,.int .i64 ru,.int .i64 0] 112 (0,0))):
  WkAt b b PV ru w Wk.zero (.slice none 0 0) (.slice none 0 0):=
 ⟨h,⟨rfl,.inl ⟨rfl,rfl⟩⟩,⟨rfl,.inl ⟨rfl,rfl⟩⟩,by simp[Value.ownBlock],by simp[Value.ownBlock],by simp[Value.ownBlock],Nat.le_refl _⟩
theorem ws_nil {b k:Nat} (h:WS b (.slice none 0 0) (.slice none 0 0) k):k=b:=by
 rcases h with h|h|h
 ·exact h
 ·cases h
 ·cases h
def pairV (x:Int×Int):Value:=.agg #[.int .i64 x.1,.int .i64 x.2]
theorem rcheck_any (P:List Fu) (ok:Nat→Prop) (A:Option Addr) (c:Nat) (w:World) (hr:RdRows ok w 5 A 0 (P.map Fu.d)) (hc:P.length*96≤reach) (hpc:P.length≤c) (hs:Fu.sizes P≤1099511627776) (hok:∀q,ok q→q<w.heap.size) (r:Nat) (hr1:10≤r) (hr2:r≤14):
  Calls Tryz.prog 42 #[.agg #[.slice A P.length c],.int .i64 (r:Int)] w fun e w'=>e= .returned (pairV (refCheck P r))∧Fr Non w w':=by
 obtain⟨W1,HW1⟩:∃W1,W1=(w.alloc (.cells #[.slice A P.length c] 24)).alloc (.cells #[.int .i64 0,.int .i64 0] 34):=⟨_,rfl⟩;have hf1:Fr Non w W1:=by rw[HW1];exact((Zf w).alloc _).alloc _
 have hb1:W1.heap[w.heap.size]? =some (.cells #[.slice A P.length c] 24 (0,0)):=by rw[HW1];exact blk_old (blk_new _ _ _)
 have hb2:W1.heap[w.heap.size+1]? =some (.cells #[.int .i64 0,.int .i64 0] 34 (0,0)):=by rw[HW1];exact blk_new' (by simp) _ _
 have HR:=Zh (hr.fr hf1 (fun _ _=>non _) fun _ h=>h);clear hr;have HF1:=Zh hf1;clear hf1;have p0:=(Zc hb1).1 0 _ rfl;have HB1:=Zh hb1;clear hb1;have HB2:=Zh hb2;clear hb2;have HOK:=Zh hok;clear hok;have hsz:w.heap.size+1<W1.heap.size:=blk_lt HB2.out;go_enter Tryz.func42,Tryz.ntmps42;go_upto_region 1 with fail;rw[←HW1];clear HW1;go_wp2_with fail;refine(mayP_any P ok A c W1 HR.out hc hs).mono ?_;rintro e w2 ⟨rfl,hf2⟩;cases hm:mayM P with
 |false=>
  have HRC:=Zh (show refCheck P r=(0,2) by rw[refCheck,hm];rfl);clear hm;have hb2:=Zb HB2.out hf2 (non _);have f0:=(Zc hb2).1 0 _ rfl;have f1:=(Zc hb2).1 1 _ rfl;have ff:=(Zc hb2).2;have hbx:=hb2;clear hb2;have HF2:=Zh (HF1.out.trans hf2);clear hf2;go_wp2_with fail;have HF3:=Zh (show Fr Non w ((w2.setCell ⟨w.heap.size+1,0,none⟩ (.int .i64 0)).setCell ⟨w.heap.size+1,1,none⟩ (.int .i64 2)) from(HF2.out.setCell ⟨w.heap.size+1,0,none⟩ _ (.inr (by simp))).setCell ⟨w.heap.size+1,1,none⟩ _ (.inr (by simp)));have hb3:((w2.setCell ⟨w.heap.size+1,0,none⟩ (.int .i64 0)).setCell ⟨w.heap.size+1,1,none⟩ (.int .i64 2)).heap[w.heap.size+1]? =some (.cells #[.int .i64 0,.int .i64 2] 34 (0,0)):=blk_set (blk_set hbx 0 _) 1 _;generalize (w2.setCell ⟨w.heap.size+1,0,none⟩ (.int .i64 0)).setCell ⟨w.heap.size+1,1,none⟩ (.int .i64 2)=w3 at*;clear f0 f1 ff;have f0:=(Zc hb3).1 0 _ rfl;have f1:=(Zc hb3).1 1 _ rfl;clear hb3 hbx;refine bodyPost_ret (v:=pairV (0,2)) (by simp[results,Tryz.results42,go_sem,f0,f1,pairV]) rfl ⟨by rw[HRC.out],HF3.out⟩
 |true=>
  have HM:=Zh hm;clear hm;have HF2:=Zh hf2;have HREF:=Zh (show refCheck P r=refN P (r-9) by rw[refCheck,HM.out];rfl);have hp2:=hf2.cell' p0 (non _);clear hf2 p0;go_wp2_with fail
  go_loopw [5,6] (fun k q wr=>∃i z:Nat,k= .int .i64 z∧z=10+i∧z≤r+1∧refN P i=(0,0)∧Fr Non W1 wr) (fun k _ _=>r+1-(intOf k).toNat)
  case atStart=>exact⟨0,10,rfl,rfl,by omega,rfl,HF2.out⟩
  case round=>
   obtain⟨i,z,rfl,hz,hi,hri,hfr⟩:=hrel;have HFR:=Zh hfr;have HRI:=Zh hri;clear hri;have p0:=hfr.cell' ((Zc HB1.out).1 0 _ rfl) (non _);have hfb:=Zb HB2.out hfr (non _);have HFB:=Zh hfb;have hnx:=refN_next P i HRI.out;rw[←hz] at hnx;have HNX:=Zh hnx;have HZ:=Zh hz;clear hz hnx;have hsz2:=hfr.size;clear hfr;by_cases hlt:z≤r
   ·obtain⟨W3,HW3⟩:∃W3,W3=wr.alloc (.cells #[.slice A P.length c,.int .i64 0,.slice none 0 0,.slice none 0 0,.int .i64 0,.int .i64 0,.int .i64 0,.int .i64 z,.int .i64 0] 112):=⟨_,rfl⟩;have hf3:Fr Non wr W3:=by rw[HW3];exact(Zf _).alloc _
    have hb3:W3.heap[wr.heap.size]? =some (.cells #[.slice A P.length c,.int .i64 0,.slice none 0 0,.slice none 0 0,.int .i64 0,.int .i64 0,.int .i64 0,.int .i64 z,.int .i64 0] 112 (0,0)):=by rw[HW3];exact blk_new _ _ _
    have hh:=WkAt.made hb3;have HC:=Zh (wkwalk_any wr.heap.size wr.heap.size ok A c P z W3 Wk.zero _ _ hh (HR.out.fr (HFR.out.trans hf3) (fun _ _=>non _) fun _ h=>h) hc hpc (fun q hq=>by have:=HOK.out q hq;omega) HM.out rfl rfl);have HF3:=Zh (HFR.out.trans hf3);have HFB3:=Zh (Zb HFB.out hf3 (non _));clear hf3 hh hb3 hfb;have hz3:W3.heap.size=wr.heap.size+1:=by rw[HW3];simp
    go_upto_region 7 with fail;rw[←HW3];clear HW3 p0;go_wp2_with fail;refine HC.out.mono ?_;rintro e w4 ⟨rfl,h4⟩;obtain⟨ve4,vg4,h4,hf4,_⟩:=h4;rw[show Wk.walkN (z:Int) P Wk.zero P.length=Wk.walk (z:Int) P from rfl] at h4;generalize Wk.walk (z:Int) P=s at*;have hfb4:=Zb HFB3.out hf4 (fun hs=>by have:=ws_nil hs;omega);have HF4:=Zh (HF3.out.then hf4 fun k hk hs=>by have:=ws_nil hs;omega);clear hf4;have H4:=Zh h4;have b5:=(Zc h4.blk).1 5 _ rfl;have b6:=(Zc h4.blk).1 6 _ rfl;clear h4;go_wp2_with fail;refine(fine_any _ _ _ _ w4 s ve4 vg4 H4.out).mono ?_;rintro e w5 ⟨rfl,rfl⟩;cases hfi:s.fine with
    |true=>
     have hnx:=HNX.out;rw[hfi,if_pos rfl] at hnx;have HNX2:=Zh hnx;clear hnx HNX hfi;go_wp2_with fail;go_roundw
     case rel=>exact⟨i+1,z+1,by go_num,by have:=HZ.out;omega,by omega,HNX2.out,HF4.out⟩
     case measure=>simp[intOf];omega
    |false=>
     have hnx:=HNX.out;rw[hfi,if_neg Bool.false_ne_true] at hnx;have hne:(refN P (i+1)).2≠0:=by rw[hnx];intro h9;have h9:s.ferr=0:=h9;rw[Wk.fine,h9] at hfi;cases hfi
     have hst:=refN_stay P (i+1) hne (r-9-(i+1));rw[show i+1+(r-9-(i+1))=r-9 by have:=HZ.out;omega,hnx,←HREF.out] at hst;have HST:=Zh hst;clear hst hne hnx HNX hfi;have f0:=(Zc hfb4).1 0 _ rfl;have f1:=(Zc hfb4).1 1 _ rfl;have ff:=(Zc hfb4).2;have hbf:w.heap.size+1≠wr.heap.size:=by omega
     go_wp2_with fail;have HF5:=Zh (show Fr Non w ((w4.setCell ⟨w.heap.size+1,0,none⟩ (.int .i64 s.fat)).setCell ⟨w.heap.size+1,1,none⟩ (.int .i64 s.ferr)) from((HF1.out.trans HF4.out).setCell ⟨w.heap.size+1,0,none⟩ _ (.inr (by simp))).setCell ⟨w.heap.size+1,1,none⟩ _ (.inr (by simp)));have hb5:((w4.setCell ⟨w.heap.size+1,0,none⟩ (.int .i64 s.fat)).setCell ⟨w.heap.size+1,1,none⟩ (.int .i64 s.ferr)).heap[w.heap.size+1]? =some (.cells #[.int .i64 s.fat,.int .i64 s.ferr] 34 (0,0)):=blk_set (blk_set hfb4 0 _) 1 _;generalize (w4.setCell ⟨w.heap.size+1,0,none⟩ (.int .i64 s.fat)).setCell ⟨w.heap.size+1,1,none⟩ (.int .i64 s.ferr)=w5 at*;clear f0 f1 ff;have f0:=(Zc hb5).1 0 _ rfl;have f1:=(Zc hb5).1 1 _ rfl;clear hb5 hfb4;refine bodyPost_ret (v:=pairV (s.fat,s.ferr)) (by simp[results,Tryz.results42,go_sem,f0,f1,pairV]) rfl ⟨by rw[HST.out],HF5.out⟩
   ·have hiz:i=r-9:=by have:=HZ.out;omega
    have HRE:=Zh (show refCheck P r=(0,0) by rw[HREF.out,←hiz];exact HRI.out);have f0:=(Zc hfb).1 0 _ rfl;have f1:=(Zc hfb).1 1 _ rfl;have ff:=(Zc hfb).2;clear hiz;go_wp2_with fail;have HF5:=Zh (show Fr Non w ((wr.setCell ⟨w.heap.size+1,0,none⟩ (.int .i64 0)).setCell ⟨w.heap.size+1,1,none⟩ (.int .i64 0)) from((HF1.out.trans HFR.out).setCell ⟨w.heap.size+1,0,none⟩ _ (.inr (by simp))).setCell ⟨w.heap.size+1,1,none⟩ _ (.inr (by simp)));have hb5:((wr.setCell ⟨w.heap.size+1,0,none⟩ (.int .i64 0)).setCell ⟨w.heap.size+1,1,none⟩ (.int .i64 0)).heap[w.heap.size+1]? =some (.cells #[.int .i64 0,.int .i64 0] 34 (0,0)):=blk_set (blk_set hfb 0 _) 1 _;generalize (wr.setCell ⟨w.heap.size+1,0,none⟩ (.int .i64 0)).setCell ⟨w.heap.size+1,1,none⟩ (.int .i64 0)=w5 at*;clear f0 f1 ff;have f0:=(Zc hb5).1 0 _ rfl;have f1:=(Zc hb5).1 1 _ rfl;clear hb5 hfb;refine bodyPost_ret (v:=pairV (0,0)) (by simp[results,Tryz.results42,go_sem,f0,f1,pairV]) rfl ⟨by rw[HRE.out],HF5.out⟩
end Go.Proofs.YtpkpgmnbheenbaaGreatDoor
