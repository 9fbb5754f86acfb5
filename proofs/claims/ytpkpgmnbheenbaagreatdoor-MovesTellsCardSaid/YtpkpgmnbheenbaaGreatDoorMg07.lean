/- Contracts and laws, Mg07 -/
import Derived.Test.YtpkpgmnbheenbaaGreatDoorMg01
import Derived.Test.YtpkpgmnbheenbaaGreatDoorMg06
import Derived.Deep.DeepCutAuto
import Derived.Deep.RegionHeld3
import Derived.StillTailTactics
namespace Go.Proofs.YtpkpgmnbheenbaaGreatDoor
open Go.RowKit
set_option linter.unusedVariables false
set_option linter.unusedSimpArgs false
set_option maxHeartbeats 8000000
set_option maxRecDepth 100000
def Wk.askS (ru:Int) (s:Wk) (o:Option Va) (buf:Bool):Wk:=
 (((s.bad ru 10 (!o.isSome) 3).bad ru 11 (o.isSome&&((o.getD Va.zero).buf !=buf)) 8).bad ru 13 (o.isSome&&buf&&((o.getD Va.zero).lent==2)) 130).bad ru 14 (o.isSome&&buf&&(o.getD Va.zero).gone) 140
def Wk.ask (ru:Int) (s:Wk) (nm:ByteArray) (buf:Bool):Va×Wk:=((s.find nm).getD Va.zero,s.askS ru (s.find nm) buf)
theorem ask_any (base b:Nat) (PV:Value) (ru:Int) (w:World) (s:Wk) (ve vg:Value) (nm:ByteArray) (buf:Bool) (h:WkAt base b PV ru w s ve vg) (hc:s.env.length≤1099511627776):
  Calls Tryz.prog 139 #[.pointer (some ⟨b,0,none⟩),.string nm,.bool buf] w fun e w'=>e= .returned (s.ask ru nm buf).1.v∧Fr (fun k=>k=b) w w'∧WkAt base b PV ru w' (s.ask ru nm buf).2 ve vg:=by
 have HW:=Zh h;have hb:=blk_lt h.blk;have h0:=h.stay ((Zf w).alloc (.cells #[.string ⟨#[]⟩,.bool false,.bool false,.bool false,.bool false,.bool false,.bool false,.int .i64 0,.int .i64 0] 184));have H0:=Zh h0;clear h0 h;go_enter Tryz.func139,Tryz.ntmps139;go_wp2_with fail;refine(Find_any base b PV ru _ s ve vg nm H0.out hc).mono ?_;rintro e w1 ⟨rfl,hf1⟩;have hz:=Zb (blk_new w _ _) hf1 (non _);have h1:=H0.out.stay hf1;have hf01:=(Zf w).alloc (.cells #[.string ⟨#[]⟩,.bool false,.bool false,.bool false,.bool false,.bool false,.bool false,.int .i64 0,.int .i64 0] 184) |>.trans hf1;have H1:=Zh h1;clear h1;have HZ:=Zh hz;clear hz;have HF1:=Zh hf01;clear hf01 hf1;unfold foundV Va.v;generalize ho:s.find nm=o;have HO:=Zh ho;clear ho;generalize hx:o.getD Va.zero=x;generalize hi:o.isSome=is;have HX:=Zh hx;clear hx;have HI:=Zh hi;clear hi;go_upto_region 2 with fail;obtain⟨W2,HW2⟩:∃W2,W2=w1.alloc (.cells #[.string x.name,.bool x.buf,.bool x.sec,.bool x.mt,.bool x.own,.bool x.set,.bool x.gone,.int .i64 x.lent,.int .i64 x.loops] 184):=⟨_,rfl⟩;rw[←HW2];have hx2:W2.heap[w1.heap.size]? =some (.cells #[.string x.name,.bool x.buf,.bool x.sec,.bool x.mt,.bool x.own,.bool x.set,.bool x.gone,.int .i64 x.lent,.int .i64 x.loops] 184 (0,0)):=by rw[HW2];exact blk_new _ _ _
 have hf2:Fr Non w1 W2:=by rw[HW2];exact(Zf _).alloc _
 clear HW2;have h2:=H1.out.stay hf2;have hz2:=Zb HZ.out hf2 (non _);have hfw:=HF1.out.trans hf2;have hb1:b<w1.heap.size:=blk_lt H1.out.blk;have hz1:w.heap.size<w1.heap.size:=blk_lt HZ.out;have HX2:=Zh hx2;clear hx2;have HZ2:=Zh hz2;clear hz2;have H2:=Zh h2;clear h2;have HFW:=Zh hfw;clear hfw hf2;go_wp2_with fail;refine(bad_any base b PV ru W2 s ve vg 10 (!is) 3 H2.out).mono ?_;rintro e W3 ⟨rfl,hf3,h3⟩;have hx3:=Zb HX2.out hf3 (by omega);have hz3:=Zb HZ2.out hf3 (by omega);have x1:=(Zc hx3).1 1 _ rfl;have H3:=Zh h3;clear h3;have HX3:=Zh hx3;clear hx3;have HZ3:=Zh hz3;clear hz3;have HF3:=Zh (HFW.out.non.trans hf3);clear hf3;cases is with
 |false=>
  go_wp2_with fail;refine(bad_any base b PV ru _ _ ve vg 11 _ 8 H3.out).mono ?_;rintro e W4 ⟨rfl,hf4,h4⟩;have hx4:=Zb HX3.out hf4 (by omega);have hz4:=Zb HZ3.out hf4 (by omega);clear x1;have x7:=(Zc hx4).1 7 _ rfl;have H4:=Zh h4;clear h4;have HX4:=Zh hx4;clear hx4;have HZ4:=Zh hz4;clear hz4;have HF4:=Zh (HF3.out.trans hf4);clear hf4;go_wp2_with fail;refine(bad_any base b PV ru _ _ ve vg 13 _ 130 H4.out).mono ?_;rintro e W5 ⟨rfl,hf5,h5⟩;have hx5:=Zb HX4.out hf5 (by omega);have hz5:=Zb HZ4.out hf5 (by omega);clear x7;have x6:=(Zc hx5).1 6 _ rfl;have H5:=Zh h5;clear h5;have HX5:=Zh hx5;clear hx5;have HZ5:=Zh hz5;clear hz5;have HF5:=Zh (HF4.out.trans hf5);clear hf5;go_wp2_with fail;refine(bad_any base b PV ru _ _ ve vg 14 _ 140 H5.out).mono ?_;rintro e W6 ⟨rfl,hf6,h6⟩;have hx6:=Zb HX5.out hf6 (by omega);have hz6:=Zb HZ5.out hf6 (by omega);clear x6;have y0:=(Zc hx6).1 0 _ rfl;have y1:=(Zc hx6).1 1 _ rfl;have y2:=(Zc hx6).1 2 _ rfl;have y3:=(Zc hx6).1 3 _ rfl;have y4:=(Zc hx6).1 4 _ rfl;have y5:=(Zc hx6).1 5 _ rfl;have y6:=(Zc hx6).1 6 _ rfl;have y7:=(Zc hx6).1 7 _ rfl;have y8:=(Zc hx6).1 8 _ rfl;have y9:=(Zc hz6).2;have q0:=(Zc hz6).1 0 _ rfl;have q1:=(Zc hz6).1 1 _ rfl;have q2:=(Zc hz6).1 2 _ rfl;have q3:=(Zc hz6).1 3 _ rfl;have q4:=(Zc hz6).1 4 _ rfl;have q5:=(Zc hz6).1 5 _ rfl;have q6:=(Zc hz6).1 6 _ rfl;have q7:=(Zc hz6).1 7 _ rfl;have q8:=(Zc hz6).1 8 _ rfl;have H6:=Zh h6;clear h6;have HX6:=Zh hx6;clear hx6;have HZ6:=Zh hz6;clear hz6;have HF6:=Zh (HF5.out.trans hf6);clear hf6;go_wp2_with fail;have fin:∀wz,Fr (fun k=>k=w.heap.size) W6 wz→(Ending.returned (Value.agg #[.string x.name,.bool x.buf,.bool x.sec,.bool x.mt,.bool x.own,.bool x.set,.bool x.gone,.int .i64 x.lent,.int .i64 x.loops])=Ending.returned (s.ask ru nm buf).1.v∧Fr (fun k=>k=b) w wz∧WkAt base b PV ru wz (s.ask ru nm buf).2 ve vg):=by
   intro wz hz;refine⟨?_,HF6.out.then hz (fun k hk e=>by have e:k=w.heap.size:=e;omega),?_⟩
   ·rw[Wk.ask,HO.out];show _=Ending.returned (o.getD Va.zero).v
    rw[HX.out];rfl
   ·have h:=H6.out.far hz (fun k hk e=>by have h1:=(HW.out.lt k hk).2;have e:k=w.heap.size:=e;omega);rw[Wk.ask,HO.out,Wk.askS,HX.out,HI.out];simpa using h
  refine bodyPost_ret (v:=.agg #[.string x.name,.bool x.buf,.bool x.sec,.bool x.mt,.bool x.own,.bool x.set,.bool x.gone,.int .i64 x.lent,.int .i64 x.loops]) ?_ rfl (fin _ ?_)
  ·simp[results,Tryz.results139,go_sem,q0,q1,q2,q3,q4,q5,q6,q7,q8]
  ·repeat (refine Fr.setCell ?_ _ _ (.inl rfl))
   exact Fr.refl _ _
 |true=>
  cases buf with
  |false=>
   go_wp2_with fail;refine(bad_any base b PV ru _ _ ve vg 11 _ 8 H3.out).mono ?_;rintro e W4 ⟨rfl,hf4,h4⟩;have hx4:=Zb HX3.out hf4 (by omega);have hz4:=Zb HZ3.out hf4 (by omega);clear x1;have x7:=(Zc hx4).1 7 _ rfl;have H4:=Zh h4;clear h4;have HX4:=Zh hx4;clear hx4;have HZ4:=Zh hz4;clear hz4;have HF4:=Zh (HF3.out.trans hf4);clear hf4;go_wp2_with fail;refine(bad_any base b PV ru _ _ ve vg 13 _ 130 H4.out).mono ?_;rintro e W5 ⟨rfl,hf5,h5⟩;have hx5:=Zb HX4.out hf5 (by omega);have hz5:=Zb HZ4.out hf5 (by omega);clear x7;have x6:=(Zc hx5).1 6 _ rfl;have H5:=Zh h5;clear h5;have HX5:=Zh hx5;clear hx5;have HZ5:=Zh hz5;clear hz5;have HF5:=Zh (HF4.out.trans hf5);clear hf5;go_wp2_with fail;refine(bad_any base b PV ru _ _ ve vg 14 _ 140 H5.out).mono ?_;rintro e W6 ⟨rfl,hf6,h6⟩;have hx6:=Zb HX5.out hf6 (by omega);have hz6:=Zb HZ5.out hf6 (by omega);clear x6;have y0:=(Zc hx6).1 0 _ rfl;have y1:=(Zc hx6).1 1 _ rfl;have y2:=(Zc hx6).1 2 _ rfl;have y3:=(Zc hx6).1 3 _ rfl;have y4:=(Zc hx6).1 4 _ rfl;have y5:=(Zc hx6).1 5 _ rfl;have y6:=(Zc hx6).1 6 _ rfl;have y7:=(Zc hx6).1 7 _ rfl;have y8:=(Zc hx6).1 8 _ rfl;have y9:=(Zc hz6).2;have q0:=(Zc hz6).1 0 _ rfl;have q1:=(Zc hz6).1 1 _ rfl;have q2:=(Zc hz6).1 2 _ rfl;have q3:=(Zc hz6).1 3 _ rfl;have q4:=(Zc hz6).1 4 _ rfl;have q5:=(Zc hz6).1 5 _ rfl;have q6:=(Zc hz6).1 6 _ rfl;have q7:=(Zc hz6).1 7 _ rfl;have q8:=(Zc hz6).1 8 _ rfl;have H6:=Zh h6;clear h6;have HX6:=Zh hx6;clear hx6;have HZ6:=Zh hz6;clear hz6;have HF6:=Zh (HF5.out.trans hf6);clear hf6;go_wp2_with fail;have fin:∀wz,Fr (fun k=>k=w.heap.size) W6 wz→(Ending.returned (Value.agg #[.string x.name,.bool x.buf,.bool x.sec,.bool x.mt,.bool x.own,.bool x.set,.bool x.gone,.int .i64 x.lent,.int .i64 x.loops])=Ending.returned (s.ask ru nm false).1.v∧Fr (fun k=>k=b) w wz∧WkAt base b PV ru wz (s.ask ru nm false).2 ve vg):=by
    intro wz hz;refine⟨?_,HF6.out.then hz (fun k hk e=>by have e:k=w.heap.size:=e;omega),?_⟩
    ·rw[Wk.ask,HO.out];show _=Ending.returned (o.getD Va.zero).v
     rw[HX.out];rfl
    ·have h:=H6.out.far hz (fun k hk e=>by have h1:=(HW.out.lt k hk).2;have e:k=w.heap.size:=e;omega);rw[Wk.ask,HO.out,Wk.askS,HX.out,HI.out];simpa using h
   refine bodyPost_ret (v:=.agg #[.string x.name,.bool x.buf,.bool x.sec,.bool x.mt,.bool x.own,.bool x.set,.bool x.gone,.int .i64 x.lent,.int .i64 x.loops]) ?_ rfl (fin _ ?_)
   ·simp[results,Tryz.results139,go_sem,q0,q1,q2,q3,q4,q5,q6,q7,q8]
   ·repeat (refine Fr.setCell ?_ _ _ (.inl rfl))
    exact Fr.refl _ _
  |true=>
   go_wp2_with fail;refine(bad_any base b PV ru _ _ ve vg 11 _ 8 H3.out).mono ?_;rintro e W4 ⟨rfl,hf4,h4⟩;have hx4:=Zb HX3.out hf4 (by omega);have hz4:=Zb HZ3.out hf4 (by omega);clear x1;have x7:=(Zc hx4).1 7 _ rfl;have H4:=Zh h4;clear h4;have HX4:=Zh hx4;clear hx4;have HZ4:=Zh hz4;clear hz4;have HF4:=Zh (HF3.out.trans hf4);clear hf4;go_wp2_with fail;refine(bad_any base b PV ru _ _ ve vg 13 _ 130 H4.out).mono ?_;rintro e W5 ⟨rfl,hf5,h5⟩;have hx5:=Zb HX4.out hf5 (by omega);have hz5:=Zb HZ4.out hf5 (by omega);clear x7;have x6:=(Zc hx5).1 6 _ rfl;have H5:=Zh h5;clear h5;have HX5:=Zh hx5;clear hx5;have HZ5:=Zh hz5;clear hz5;have HF5:=Zh (HF4.out.trans hf5);clear hf5;go_wp2_with fail;refine(bad_any base b PV ru _ _ ve vg 14 _ 140 H5.out).mono ?_;rintro e W6 ⟨rfl,hf6,h6⟩;have hx6:=Zb HX5.out hf6 (by omega);have hz6:=Zb HZ5.out hf6 (by omega);clear x6;have y0:=(Zc hx6).1 0 _ rfl;have y1:=(Zc hx6).1 1 _ rfl;have y2:=(Zc hx6).1 2 _ rfl;have y3:=(Zc hx6).1 3 _ rfl;have y4:=(Zc hx6).1 4 _ rfl;have y5:=(Zc hx6).1 5 _ rfl;have y6:=(Zc hx6).1 6 _ rfl;have y7:=(Zc hx6).1 7 _ rfl;have y8:=(Zc hx6).1 8 _ rfl;have y9:=(Zc hz6).2;have q0:=(Zc hz6).1 0 _ rfl;have q1:=(Zc hz6).1 1 _ rfl;have q2:=(Zc hz6).1 2 _ rfl;have q3:=(Zc hz6).1 3 _ rfl;have q4:=(Zc hz6).1 4 _ rfl;have q5:=(Zc hz6).1 5 _ rfl;have q6:=(Zc hz6).1 6 _ rfl;have q7:=(Zc hz6).1 7 _ rfl;have q8:=(Zc hz6).1 8 _ rfl;have H6:=Zh h6;clear h6;have HX6:=Zh hx6;clear hx6;have HZ6:=Zh hz6;clear hz6;have HF6:=Zh (HF5.out.trans hf6);clear hf6;go_wp2_with fail;have fin:∀wz,Fr (fun k=>k=w.heap.size) W6 wz→(Ending.returned (Value.agg #[.string x.name,.bool x.buf,.bool x.sec,.bool x.mt,.bool x.own,.bool x.set,.bool x.gone,.int .i64 x.lent,.int .i64 x.loops])=Ending.returned (s.ask ru nm true).1.v∧Fr (fun k=>k=b) w wz∧WkAt base b PV ru wz (s.ask ru nm true).2 ve vg):=by
    intro wz hz;refine⟨?_,HF6.out.then hz (fun k hk e=>by have e:k=w.heap.size:=e;omega),?_⟩
    ·rw[Wk.ask,HO.out];show _=Ending.returned (o.getD Va.zero).v
     rw[HX.out];rfl
    ·have h:=H6.out.far hz (fun k hk e=>by have h1:=(HW.out.lt k hk).2;have e:k=w.heap.size:=e;omega);rw[Wk.ask,HO.out,Wk.askS,HX.out,HI.out];simpa using h
   refine bodyPost_ret (v:=.agg #[.string x.name,.bool x.buf,.bool x.sec,.bool x.mt,.bool x.own,.bool x.set,.bool x.gone,.int .i64 x.lent,.int .i64 x.loops]) ?_ rfl (fin _ ?_)
   ·simp[results,Tryz.results139,go_sem,q0,q1,q2,q3,q4,q5,q6,q7,q8]
   ·repeat (refine Fr.setCell ?_ _ _ (.inl rfl))
    exact Fr.refl _ _
def Wk.turned (ru:Int) (s:Wk) (nm:ByteArray):Va×Wk:=
 ((s.ask ru nm true).1,((s.ask ru nm true).2.bad ru 11 (!(s.ask ru nm true).1.mt) 8).bad ru 13 ((s.ask ru nm true).1.lent==1) 130)
theorem turned_any (base b:Nat) (PV:Value) (ru:Int) (w:World) (s:Wk) (ve vg:Value) (nm:ByteArray) (h:WkAt base b PV ru w s ve vg) (hc:s.env.length≤1099511627776):
  Calls Tryz.prog 141 #[.pointer (some ⟨b,0,none⟩),.string nm] w fun e w'=>e= .returned (s.turned ru nm).1.v∧Fr (fun k=>k=b) w w'∧WkAt base b PV ru w' (s.turned ru nm).2 ve vg:=by
 have HW:=Zh h;have hb:=blk_lt h.blk;have h0:=h.stay ((Zf w).alloc (.cells #[.string ⟨#[]⟩,.bool false,.bool false,.bool false,.bool false,.bool false,.bool false,.int .i64 0,.int .i64 0] 184));have H0:=Zh h0;clear h0 h;go_enter Tryz.func141,Tryz.ntmps141;go_wp2_with fail;refine(ask_any base b PV ru _ s ve vg nm true H0.out hc).mono ?_;rintro e w1 ⟨rfl,hf1,h1⟩;have hz:=Zb (blk_new w _ _) hf1 (by omega);have hf01:=(((Zf w).alloc (.cells #[.string ⟨#[]⟩,.bool false,.bool false,.bool false,.bool false,.bool false,.bool false,.int .i64 0,.int .i64 0] 184)).non (S:=fun k=>k=b)).trans hf1;generalize hx:(s.ask ru nm true).1=x;have HX:=Zh hx;clear hx;have H1:=Zh h1;clear h1;have HZ:=Zh hz;clear hz;have HF1:=Zh hf01;clear hf01 hf1;unfold Va.v;go_upto_region 2 with fail;obtain⟨W2,HW2⟩:∃W2,W2=w1.alloc (.cells #[.string x.name,.bool x.buf,.bool x.sec,.bool x.mt,.bool x.own,.bool x.set,.bool x.gone,.int .i64 x.lent,.int .i64 x.loops] 184):=⟨_,rfl⟩;rw[←HW2];have hx2:W2.heap[w1.heap.size]? =some (.cells #[.string x.name,.bool x.buf,.bool x.sec,.bool x.mt,.bool x.own,.bool x.set,.bool x.gone,.int .i64 x.lent,.int .i64 x.loops] 184 (0,0)):=by rw[HW2];exact blk_new _ _ _
 have hf2:Fr Non w1 W2:=by rw[HW2];exact(Zf _).alloc _
 clear HW2;have h2:=H1.out.stay hf2;have hz2:=Zb HZ.out hf2 (non _);have hfw:=HF1.out.trans hf2.non;have hb1:b<w1.heap.size:=blk_lt H1.out.blk;have hz1:w.heap.size<w1.heap.size:=blk_lt HZ.out;have x3:=(Zc hx2).1 3 _ rfl;have HX2:=Zh hx2;clear hx2;have HZ2:=Zh hz2;clear hz2;have H2:=Zh h2;clear h2;have HFW:=Zh hfw;clear hfw hf2;go_wp2_with fail;refine(bad_any base b PV ru W2 _ ve vg 11 (!x.mt) 8 H2.out).mono ?_;rintro e W3 ⟨rfl,hf3,h3⟩;have hx3:=Zb HX2.out hf3 (by omega);have hz3:=Zb HZ2.out hf3 (by omega);clear x3;have x7:=(Zc hx3).1 7 _ rfl;have H3:=Zh h3;clear h3;have HX3:=Zh hx3;clear hx3;have HZ3:=Zh hz3;clear hz3;have HF3:=Zh (HFW.out.trans hf3);clear hf3;go_wp2_with fail;refine(bad_any base b PV ru W3 _ ve vg 13 _ 130 H3.out).mono ?_;rintro e W6 ⟨rfl,hf4,h4⟩;have hx4:=Zb HX3.out hf4 (by omega);have hz4:=Zb HZ3.out hf4 (by omega);clear x7;have y0:=(Zc hx4).1 0 _ rfl;have y1:=(Zc hx4).1 1 _ rfl;have y2:=(Zc hx4).1 2 _ rfl;have y3:=(Zc hx4).1 3 _ rfl;have y4:=(Zc hx4).1 4 _ rfl;have y5:=(Zc hx4).1 5 _ rfl;have y6:=(Zc hx4).1 6 _ rfl;have y7:=(Zc hx4).1 7 _ rfl;have y8:=(Zc hx4).1 8 _ rfl;have y9:=(Zc hz4).2;have q0:=(Zc hz4).1 0 _ rfl;have q1:=(Zc hz4).1 1 _ rfl;have q2:=(Zc hz4).1 2 _ rfl;have q3:=(Zc hz4).1 3 _ rfl;have q4:=(Zc hz4).1 4 _ rfl;have q5:=(Zc hz4).1 5 _ rfl;have q6:=(Zc hz4).1 6 _ rfl;have q7:=(Zc hz4).1 7 _ rfl;have q8:=(Zc hz4).1 8 _ rfl;have H6:=Zh h4;clear h4;clear hx4 hz4;have HF6:=Zh (HF3.out.trans hf4);clear hf4;go_wp2_with fail;have fin:∀wz,Fr (fun k=>k=w.heap.size) W6 wz→(Ending.returned (Value.agg #[.string x.name,.bool x.buf,.bool x.sec,.bool x.mt,.bool x.own,.bool x.set,.bool x.gone,.int .i64 x.lent,.int .i64 x.loops])=Ending.returned (s.turned ru nm).1.v∧Fr (fun k=>k=b) w wz∧WkAt base b PV ru wz (s.turned ru nm).2 ve vg):=by
  intro wz hz;refine⟨?_,HF6.out.then hz (fun k hk e=>by have e:k=w.heap.size:=e;omega),?_⟩
  ·show _=Ending.returned (s.ask ru nm true).1.v
   rw[HX.out];rfl
  ·have h:=H6.out.far hz (fun k hk e=>by have h1:=(HW.out.lt k hk).2;have e:k=w.heap.size:=e;omega);rw[Wk.turned,HX.out];exact h
 refine bodyPost_ret (v:=.agg #[.string x.name,.bool x.buf,.bool x.sec,.bool x.mt,.bool x.own,.bool x.set,.bool x.gone,.int .i64 x.lent,.int .i64 x.loops]) ?_ rfl (fin _ ?_)
 ·simp[results,Tryz.results141,go_sem,q0,q1,q2,q3,q4,q5,q6,q7,q8]
 ·repeat (refine Fr.setCell ?_ _ _ (.inl rfl))
  exact Fr.refl _ _
mutual
def Wk.sec (ru:Int):Ex→Wk→Bool×Wk
 | .mk k _ nm o l,s=>
   if k.toNat=1 then(false,s)
   else if k.toNat=2 then((s.ask ru nm false).1.sec,(s.ask ru nm false).2)
   else if k.toNat=4 then(false,(s.ask ru nm true).2)
   else if k.toNat=5 then
    ((s.ask ru nm true).1.sec,(Wk.secs ru l (s.ask ru nm true).2).2.bad ru 12 ((Wk.secs ru l (s.ask ru nm true).2).1.getD 0 false) 120)
   else
    ((Wk.secs ru l s).1.getD 0 false||(Wk.secs ru l s).1.getD 1 false,
      (Wk.secs ru l s).2.bad ru 12 (((Wk.secs ru l s).1.getD 0 false||(Wk.secs ru l s).1.getD 1 false)&&(o.toNat==13||o.toNat==14)) 120)
def Wk.secs (ru:Int):List Ex→Wk→List Bool×Wk
 |[],s=>([],s)
 |e::l,s=>((Wk.sec ru e s).1::(Wk.secs ru l (Wk.sec ru e s).2).1,(Wk.secs ru l (Wk.sec ru e s).2).2)
end
theorem ask_env (ru:Int) (s:Wk) (nm:ByteArray) (buf:Bool):(s.ask ru nm buf).2.env=s.env:=by
 simp only[Wk.ask,Wk.askS];rw[(bad_env _ _ _ _ _).1,(bad_env _ _ _ _ _).1,(bad_env _ _ _ _ _).1,(bad_env _ _ _ _ _).1]
mutual
theorem sec_env (ru:Int):∀(e:Ex) (s:Wk),(Wk.sec ru e s).2.env=s.env
 | .mk k n nm o l,s=>by
   unfold Wk.sec;split
   ·rfl
   ·split
    ·exact ask_env ru s nm false
    ·split
     ·exact ask_env ru s nm true
     ·split
      ·rw[(bad_env _ _ _ _ _).1,secs_env ru l,ask_env]
      ·rw[(bad_env _ _ _ _ _).1,secs_env ru l]
theorem secs_env (ru:Int):∀(l:List Ex) (s:Wk),(Wk.secs ru l s).2.env=s.env
 |[],s=>rfl
 |e::l,s=>by simp only[Wk.secs];rw[secs_env ru l,sec_env ru e]
end
theorem field_sec (x:Va) (w:World):Sem.run Tryz.prog (Instr.field 184 (.agg #[.string x.name,.bool x.buf,.bool x.sec,.bool x.mt,.bool x.own,.bool x.set,.bool x.gone,.int .i64 x.lent,.int .i64 x.loops]) 2) w= .ok (.bool x.sec) w:=by
 kernel_rfl
theorem shape_kinds (e:Ex) (hs:shapeM e=true):e.kind.toNat=1∨e.kind.toNat=2∨e.kind.toNat=4∨(e.kind.toNat=5∧e.kids.length=1)∨(e.kind.toNat=3∧e.kids.length=2):=by
 unfold shapeM at hs;split at hs
 ·omega
 ·split at hs
  ·omega
  ·split at hs
   ·simp at hs;omega
   ·split at hs
    ·simp at hs;omega
    ·cases hs
theorem may_shape {k:UInt8} {n:UInt64} {nm:ByteArray} {o:UInt8} {l:List Ex} {d:Nat} (h:Ex.may (.mk k n nm o l) d=true):
  (k.toNat=1∨k.toNat=2∨k.toNat=4∨(k.toNat=5∧l.length=1)∨(k.toNat=3∧l.length=2))∧∀j (hj:j<l.length),Ex.may l[j] (d+1)=true:=by
 simp only[Ex.may,Bool.and_eq_true] at h;refine⟨?_,fun j hj=>?_⟩
 ·exact shape_kinds _ h.1.2
 ·have hm:=h.2;rw[mays_all,List.all_eq_true] at hm;exact hm _ (List.getElem_mem hj)
theorem secret_any (N:Nat):∀(k:UInt8) (n:UInt64) (nm:ByteArray) (o:UInt8) (l:List Ex) (d:Nat) (ok:Nat→Prop) (A:Option Addr) (c base b:Nat) (PV:Value) (ru:Int) (w:World) (s:Wk) (ve vg:Value),
  Ex.size (.mk k n nm o l)≤N→Ex.may (.mk k n nm o l) d=true→RdRows ok w 5 A 0 (Ex.ds l)→(∀q,ok q→q≠b)→WkAt base b PV ru w s ve vg→s.env.length≤1099511627776→
  Calls Tryz.prog 138 #[.pointer (some ⟨b,0,none⟩),exV k n nm o A l.length c] w fun e w'=>e= .returned (.bool (Wk.sec ru (.mk k n nm o l) s).1)∧Fr (fun q=>q=b) w w'∧WkAt base b PV ru w' (Wk.sec ru (.mk k n nm o l) s).2 ve vg:=by
 induction N with
 |zero=>intro k n nm o l d ok A c base b PV ru w s ve vg hN;simp[Ex.size] at hN
 |succ N ih=>
 intro k n nm o l d ok A c base b PV ru w s ve vg hN hmay hr hok h hc;have hk:=k.toNat_lt;have IH:=Zh ih;clear ih;have HR:=Zh hr;clear hr;have HOK:=Zh hok;clear hok;have HM:=Zh hmay;have HNN:=Zh hN;clear hN;have hb:=blk_lt h.blk;have hf0:Fr Non w (w.alloc (.cells #[vu8 k,vu64 n,.string nm,vu8 o,.slice A l.length c] 48)):=(Zf w).alloc _;have hbx:=blk_new w #[vu8 k,vu64 n,.string nm,vu8 o,.slice A l.length c] 48;have h0:=h.stay hf0;have H0:=Zh h0;clear h0 h;have HBX:=Zh hbx;clear hbx;have HF0:=Zh hf0;clear hf0;obtain⟨hs,hkids⟩:=may_shape hmay;clear hmay;have HK:=Zh hkids;clear hkids;have HS:=Zh hs;rcases hs with h1|h1|h1|⟨h1,h2⟩|⟨h1,h2⟩
 ·have HE:=Zh (show Wk.sec ru (.mk k n nm o l) s=(false,s) by rw[Wk.sec,if_pos h1]);go_enter Tryz.func138,Tryz.ntmps138;go_wp2_with fail;go_ret;rw[HE.out];exact⟨rfl,HF0.out.non,H0.out⟩
 ·have HE:=Zh (show Wk.sec ru (.mk k n nm o l) s=((s.ask ru nm false).1.sec,(s.ask ru nm false).2) by rw[Wk.sec,if_neg (by omega),if_pos h1]);go_enter Tryz.func138,Tryz.ntmps138;go_wp2_with fail;refine(ask_any base b PV ru _ s ve vg nm false H0.out hc).mono ?_;rintro e w1 ⟨rfl,hf1,h1'⟩;generalize hx:(s.ask ru nm false).1=x at*;have HX:=Zh hx;clear hx;unfold Va.v;have hfd:=field_sec x;go_wp2_with fail;go_ret;rw[HE.out];exact⟨rfl,HF0.out.non.trans hf1,h1'⟩
 ·have HE:=Zh (show Wk.sec ru (.mk k n nm o l) s=(false,(s.ask ru nm true).2) by rw[Wk.sec,if_neg (by omega),if_neg (by omega),if_pos h1]);go_enter Tryz.func138,Tryz.ntmps138;go_wp2_with fail;refine(ask_any base b PV ru _ s ve vg nm true H0.out hc).mono ?_;rintro e w1 ⟨rfl,hf1,h1'⟩;go_wp2_with fail;go_ret;rw[HE.out];exact⟨rfl,HF0.out.non.trans hf1,h1'⟩
 ·obtain⟨e1,rfl⟩:∃e1,l=[e1]:=by
   cases l with
   |nil=>simp at h2
   |cons e1 l=>cases l with
    |nil=>exact⟨e1,rfl⟩
    |cons _ _=>simp at h2
  have HE:=Zh (show Wk.sec ru (.mk k n nm o [e1]) s=((s.ask ru nm true).1.sec,(Wk.sec ru e1 (s.ask ru nm true).2).2.bad ru 12 (Wk.sec ru e1 (s.ask ru nm true).2).1 120) by rw[Wk.sec,if_neg (by omega),if_neg (by omega),if_neg (by omega),if_pos h1];rfl);clear h2;go_enter Tryz.func138,Tryz.ntmps138;go_wp2_with fail;refine(ask_any base b PV ru _ s ve vg nm true H0.out hc).mono ?_;rintro e w1 ⟨rfl,hf1,h1'⟩;have hbx1:=Zb HBX.out hf1 (by omega);have hsz:=blk_lt hbx1;have hf01:=HF0.out.non.trans hf1;have henv:=ask_env ru s nm true;generalize hx:(s.ask ru nm true).1=x at*;generalize hs1:(s.ask ru nm true).2=s1 at*;have HX:=Zh hx;clear hx;have HS1:=Zh hs1;clear hs1;have HEN:=Zh henv;clear henv;obtain⟨b1,o1,A1,c1,rfl,hb1,e0,e1',e2,e3,e4,p1,p2,p3⟩:=at_ex (HR.out.fr hf01 (fun q hq e=>HOK.out q hq e) (fun _ h=>h)) 0 (by simp);simp only[List.getElem_cons_zero,Nat.zero_mul,Nat.add_zero] at e0 e1' e2 e3 e4 p1 p2 p3;have P3:=Zh p3;clear p3;have HF1:=Zh hf01;clear hf01;have H1:=Zh h1';clear h1' hf1;have HB1:=Zh hbx1;have hlt1:b1<w1.heap.size:=World.block_lt_of_cell? _ _ e0;have z4:=(Zc hbx1).1 4 _ rfl;clear hbx1;have hbw:b<w1.heap.size:=blk_lt H1.out.blk;unfold Va.v;go_wp2_with fail;have hal:Fr Non w1 (w1.alloc (.cells #[.string x.name,.bool x.buf,.bool x.sec,.bool x.mt,.bool x.own,.bool x.set,.bool x.gone,.int .i64 x.lent,.int .i64 x.loops] 184)):=(Zf _).alloc _;have hv2:=blk_new w1 #[.string x.name,.bool x.buf,.bool x.sec,.bool x.mt,.bool x.own,.bool x.set,.bool x.gone,.int .i64 x.lent,.int .i64 x.loops] 184;have HV2:=Zh hv2;clear hv2;have HAL:=Zh hal;clear hal;refine(IH.out e1.kind e1.num e1.name e1.op e1.kids (d+1) ok A1 c1 base b PV ru _ s1 ve vg (by have:=HNN.out;rw[ex_eta];simp[Ex.size,Ex.sizes] at this;omega) (by rw[ex_eta];exact HK.out 0 (by simp)) (P3.out.fr HAL.out (fun _ _=>non _) (fun _ h=>h)) HOK.out (H1.out.stay HAL.out) (by rw[HEN.out];exact hc)).mono ?_;rw[ex_eta];rintro e w3 ⟨rfl,hf3,h3⟩;have hv3:=Zb HV2.out hf3 (by omega);have hvl:=blk_lt hv3;have HV3:=Zh hv3;clear hv3;clear e0 e1' e2 e3 e4 z4;go_wp2_with fail;refine(bad_any base b PV ru w3 _ ve vg 12 _ 120 h3).mono ?_;rintro e w4 ⟨rfl,hf4,h4⟩;have v2:=(Zc (Zb HV3.out hf4 (by omega))).1 2 _ rfl;have HF4:=Zh (((HF1.out.trans HAL.out.non).trans hf3).trans hf4);clear hf3 hf4;have H4:=Zh h4;clear h4 h3;go_wp2_with fail;go_ret;rw[HE.out];exact⟨rfl,HF4.out,H4.out⟩
 ·obtain⟨e1,e2,rfl⟩:∃e1 e2,l=[e1,e2]:=by
   match l,h2 with
   |[e1,e2],_=>exact⟨e1,e2,rfl⟩
  have HE:=Zh (show Wk.sec ru (.mk k n nm o [e1,e2]) s=((Wk.sec ru e1 s).1||(Wk.sec ru e2 (Wk.sec ru e1 s).2).1,(Wk.sec ru e2 (Wk.sec ru e1 s).2).2.bad ru 12 (((Wk.sec ru e1 s).1||(Wk.sec ru e2 (Wk.sec ru e1 s).2).1)&&(o.toNat==13||o.toNat==14)) 120) by rw[Wk.sec,if_neg (by omega),if_neg (by omega),if_neg (by omega),if_neg (by omega)];rfl);clear h2;go_enter Tryz.func138,Tryz.ntmps138;go_upto_region 13 with fail;obtain⟨W0,HW0⟩:∃W0,W0=w.alloc (.cells #[vu8 k,vu64 n,.string nm,vu8 o,.slice A 2 c] 48):=⟨_,rfl⟩;have hbx:W0.heap[w.heap.size]? =some (.cells #[vu8 k,vu64 n,.string nm,vu8 o,.slice A 2 c] 48 (0,0)):=by rw[HW0];exact blk_new _ _ _
  have hf0:Fr Non w W0:=by rw[HW0];exact(Zf w).alloc _
  have h0:WkAt base b PV ru W0 s ve vg:=by rw[HW0];exact H0.out
  rw[show(w.alloc (.cells #[vu8 k,vu64 n,.string nm,vu8 o,.slice A 2 c] 48))=W0 from HW0.symm];clear HW0 H0 HBX HF0;have HBX:=Zh hbx;have HF0:=Zh hf0;have H0:=Zh h0;clear h0;have z4:=(Zc hbx).1 4 _ rfl;clear hbx;obtain⟨b1,o1,A1,c1,hA,hb1,x0,x1,x2,x3,x4,p1,p2,p3⟩:=at_ex (HR.out.fr hf0 (fun _ _=>non _) (fun _ h=>h)) 0 (by simp);obtain⟨b1',o1',A2,c2,hA',_,y0,y1,y2,y3,y4,q1,q2,q3⟩:=at_ex (HR.out.fr hf0 (fun _ _=>non _) (fun _ h=>h)) 1 (by simp);obtain⟨rfl,rfl⟩:b1=b1'∧o1=o1':=by rw[hA] at hA';cases hA';exact⟨rfl,rfl⟩
  subst hA;clear hf0 hA';simp only[List.getElem_cons_zero,List.getElem_cons_succ,Nat.zero_mul,Nat.one_mul,Nat.add_zero] at x0 x1 x2 x3 x4 p1 p2 p3 y0 y1 y2 y3 y4 q1 q2 q3;have hS:∀w',Fr (fun q=>q=b) W0 w'→w'.cell? ⟨w.heap.size,4,none⟩=some (.slice (some ⟨b1,o1,none⟩) 2 c)∧w'.cell? ⟨b1,o1,none⟩=some (vu8 e1.kind)∧w'.cell? ⟨b1,o1+1,none⟩=some (vu64 e1.num)∧w'.cell? ⟨b1,o1+2,none⟩=some (.string e1.name)∧w'.cell? ⟨b1,o1+3,none⟩=some (vu8 e1.op)∧w'.cell? ⟨b1,o1+4,none⟩=some (.slice A1 e1.kids.length c1)∧w'.cell? ⟨b1,o1+5,none⟩=some (vu8 e2.kind)∧w'.cell? ⟨b1,o1+5+1,none⟩=some (vu64 e2.num)∧w'.cell? ⟨b1,o1+5+2,none⟩=some (.string e2.name)∧w'.cell? ⟨b1,o1+5+3,none⟩=some (vu8 e2.op)∧w'.cell? ⟨b1,o1+5+4,none⟩=some (.slice A2 e2.kids.length c2):=fun w' hf=>
   ⟨hf.cell' z4 (fun e=>by have e:w.heap.size=b:=e;omega),hf.cell' x0 (HOK.out b1 hb1),hf.cell' x1 (HOK.out b1 hb1),hf.cell' x2 (HOK.out b1 hb1),hf.cell' x3 (HOK.out b1 hb1),hf.cell' x4 (HOK.out b1 hb1),hf.cell' y0 (HOK.out b1 hb1),hf.cell' y1 (HOK.out b1 hb1),hf.cell' y2 (HOK.out b1 hb1),hf.cell' y3 (HOK.out b1 hb1),hf.cell' y4 (HOK.out b1 hb1)⟩
  have HSS:=Zh hS;clear hS;have P3:=Zh p3;clear p3;have Q3:=Zh q3;clear q3;clear z4 x0 x1 x2 x3 x4 y0 y1 y2 y3 y4
  go_region_held3 (fun w'=>w'.cell? ⟨w.heap.size,4,none⟩=some (.slice (some ⟨b1,o1,none⟩) 2 c)∧w'.cell? ⟨b1,o1,none⟩=some (vu8 e1.kind)∧w'.cell? ⟨b1,o1+1,none⟩=some (vu64 e1.num)∧w'.cell? ⟨b1,o1+2,none⟩=some (.string e1.name)∧w'.cell? ⟨b1,o1+3,none⟩=some (vu8 e1.op)∧w'.cell? ⟨b1,o1+4,none⟩=some (.slice A1 e1.kids.length c1)∧w'.cell? ⟨b1,o1+5,none⟩=some (vu8 e2.kind)∧w'.cell? ⟨b1,o1+5+1,none⟩=some (vu64 e2.num)∧w'.cell? ⟨b1,o1+5+2,none⟩=some (.string e2.name)∧w'.cell? ⟨b1,o1+5+3,none⟩=some (vu8 e2.op)∧w'.cell? ⟨b1,o1+5+4,none⟩=some (.slice A2 e2.kids.length c2)) (first|exact HSS.out _ (Zf W0).drew.non|exact HSS.out _ ((Zf W0).drew.non.trans hf2)|exact HSS.out _ (((Zf W0).drew.non.trans hf2).trans hf3))
   (first
     |(go_at_call 138;refine(IH.out e2.kind e2.num e2.name e2.op e2.kids (d+1) ok A2 c2 base b PV ru w2 (Wk.sec ru e1 s).2 ve vg (by have:=HNN.out;rw[ex_eta];simp[Ex.size,Ex.sizes] at this;omega) (by rw[ex_eta];exact HK.out 1 (by simp)) (Q3.out.fr ((Zf W0).drew.non.trans hf2) (fun q hq e=>HOK.out q hq e) (fun _ h=>h)) HOK.out h2 (by rw[sec_env];exact hc)).mono ?_;rw[ex_eta];rintro e w3 ⟨rfl,hf3,h3⟩)
     |(go_at_call 138;refine(IH.out e1.kind e1.num e1.name e1.op e1.kids (d+1) ok A1 c1 base b PV ru W0.drew s ve vg (by have:=HNN.out;rw[ex_eta];simp[Ex.size,Ex.sizes] at this;omega) (by rw[ex_eta];exact HK.out 0 (by simp)) (P3.out.fr (Zf W0).drew (fun _ _=>non _) (fun _ h=>h)) HOK.out (H0.out.stay (Zf W0).drew) hc).mono ?_;rw[ex_eta];rintro e w2 ⟨rfl,hf2,h2⟩))
  have hx3:=(Zc (Zb HBX.out (((Zf W0).drew.non.trans hf2).trans hf3) (by omega))).1 3 _ rfl;generalize hq1:(Wk.sec ru e1 s).1=a1 at*;generalize hq2:(Wk.sec ru e2 (Wk.sec ru e1 s).2).1=a2 at*;have HF3:=Zh (HF0.out.non.trans (((Zf W0).drew.non.trans hf2).trans hf3));clear hf2 hf3;have H3:=Zh h3;clear h3 h2;have HQ1:=Zh hq1;clear hq1;have HQ2:=Zh hq2;clear hq2;obtain⟨dv,hdv⟩:∃dv,dv=(o.toNat==13||o.toNat==14):=⟨_,rfl⟩;have HD:=Zh hdv;have hdv13:((o.toNat:Int)==13)=(o.toNat==13):=by rw[Bool.eq_iff_iff];simp;omega
  have hdv14:((o.toNat:Int)==14)=(o.toNat==14):=by rw[Bool.eq_iff_iff];simp;omega
  cases h13:(o.toNat==13)<;>cases h14:(o.toNat==14)<;>rw[h13] at hdv hdv13<;>rw[h14] at hdv hdv14<;>clear h13 h14<;>subst hdv<;>cases a1<;>cases a2;all_goals
   go_wp2_with fail;refine(bad_any base b PV ru w3 _ ve vg 12 _ 120 H3.out).mono ?_;rintro e w4 ⟨rfl,hf4,h4⟩;go_wp2_with fail;go_ret;rw[HE.out,←HD.out];exact⟨rfl,HF3.out.trans hf4,h4⟩
def Wk.pub (ru:Int) (s:Wk) (e:Ex):Wk:=(Wk.sec ru e s).2.bad ru 12 (Wk.sec ru e s).1 120
def Wk.opn (ru:Int) (s:Wk) (e:Ex) (sec:Bool):Wk:=(Wk.sec ru e s).2.bad ru 12 ((Wk.sec ru e s).1&& !sec) 120
theorem sec_any (e:Ex) (d:Nat) (ok:Nat→Prop) (A:Option Addr) (c base b:Nat) (PV:Value) (ru:Int) (w:World) (s:Wk) (ve vg:Value)
  (hm:Ex.may e d=true) (hr:RdRows ok w 5 A 0 (Ex.ds e.kids)) (hok:∀q,ok q→q≠b) (h:WkAt base b PV ru w s ve vg) (hc:s.env.length≤1099511627776):
  Calls Tryz.prog 138 #[.pointer (some ⟨b,0,none⟩),exV e.kind e.num e.name e.op A e.kids.length c] w fun r w'=>r= .returned (.bool (Wk.sec ru e s).1)∧Fr (fun q=>q=b) w w'∧WkAt base b PV ru w' (Wk.sec ru e s).2 ve vg:=by
 have:=secret_any e.size e.kind e.num e.name e.op e.kids d ok A c base b PV ru w s ve vg (by rw[ex_eta];exact Nat.le_refl _) (by rw[ex_eta];exact hm) hr hok h hc;rw[ex_eta] at this;exact this
theorem public_any (e:Ex) (d:Nat) (ok:Nat→Prop) (A:Option Addr) (c base b:Nat) (PV:Value) (ru:Int) (w:World) (s:Wk) (ve vg:Value)
  (hm:Ex.may e d=true) (hr:RdRows ok w 5 A 0 (Ex.ds e.kids)) (hok:∀q,ok q→q≠b) (h:WkAt base b PV ru w s ve vg) (hc:s.env.length≤1099511627776):
  Calls Tryz.prog 140 #[.pointer (some ⟨b,0,none⟩),exV e.kind e.num e.name e.op A e.kids.length c] w fun r w'=>r= .returned (.tuple #[])∧Fr (fun q=>q=b) w w'∧WkAt base b PV ru w' (s.pub ru e) ve vg:=by
 have hf0:Fr Non w (w.alloc (.cells #[vu8 e.kind,vu64 e.num,.string e.name,vu8 e.op,.slice A e.kids.length c] 48)):=(Zf w).alloc _;have h0:=h.stay hf0;have hr0:=hr.fr hf0 (fun _ _=>non _) (fun _ h=>h);have H0:=Zh h0;clear h0 h;have HR:=Zh hr0;clear hr0 hr;have HF0:=Zh hf0;clear hf0;have HOK:=Zh hok;clear hok;have HM:=Zh hm;clear hm;go_enter Tryz.func140,Tryz.ntmps140;go_wp2_with fail;refine(sec_any e d ok A c base b PV ru _ s ve vg HM.out HR.out HOK.out H0.out hc).mono ?_;rintro r w2 ⟨rfl,hf2,h2⟩;go_wp2_with fail;refine(bad_any base b PV ru w2 _ ve vg 12 _ 120 h2).mono ?_;rintro r w3 ⟨rfl,hf3,h3⟩;go_wp2_with fail
 go_end0
 exact⟨rfl,(HF0.out.non.trans hf2).trans hf3,h3⟩
theorem open_any (e:Ex) (sec:Bool) (d:Nat) (ok:Nat→Prop) (A:Option Addr) (c base b:Nat) (PV:Value) (ru:Int) (w:World) (s:Wk) (ve vg:Value)
  (hm:Ex.may e d=true) (hr:RdRows ok w 5 A 0 (Ex.ds e.kids)) (hok:∀q,ok q→q≠b) (h:WkAt base b PV ru w s ve vg) (hc:s.env.length≤1099511627776):
  Calls Tryz.prog 103 #[.pointer (some ⟨b,0,none⟩),exV e.kind e.num e.name e.op A e.kids.length c,.bool sec] w fun r w'=>r= .returned (.tuple #[])∧Fr (fun q=>q=b) w w'∧WkAt base b PV ru w' (s.opn ru e sec) ve vg:=by
 have hf0:Fr Non w (w.alloc (.cells #[vu8 e.kind,vu64 e.num,.string e.name,vu8 e.op,.slice A e.kids.length c] 48)):=(Zf w).alloc _;have h0:=h.stay hf0;have hr0:=hr.fr hf0 (fun _ _=>non _) (fun _ h=>h);have H0:=Zh h0;clear h0 h;have HR:=Zh hr0;clear hr0 hr;have HF0:=Zh hf0;clear hf0;have HOK:=Zh hok;clear hok;have HM:=Zh hm;clear hm;go_enter Tryz.func103,Tryz.ntmps103;go_wp2_with fail;refine(sec_any e d ok A c base b PV ru _ s ve vg HM.out HR.out HOK.out H0.out hc).mono ?_;rintro r w2 ⟨rfl,hf2,h2⟩;generalize hx:(Wk.sec ru e s).1=x;have HE:=Zh (show s.opn ru e sec=(Wk.sec ru e s).2.bad ru 12 (x&& !sec) 120 by rw[Wk.opn,hx]);clear hx;have H2:=Zh h2;clear h2;cases x<;>cases sec;all_goals
  go_wp2_with fail;refine(bad_any base b PV ru w2 _ ve vg 12 _ 120 H2.out).mono ?_;rintro r w3 ⟨rfl,hf3,h3⟩;go_wp2_with fail
  go_end0
  rw[HE.out];exact⟨rfl,(HF0.out.non.trans hf2).trans hf3,h3⟩
def Fu.in (ok:Nat→Prop) (w:World) (f:Fu) (u:Value):Prop:=
 ∃A1 c1 A2 c2 A3 c3,u= .agg #[.string f.name,.slice A1 f.params.length c1,.slice A2 f.body.length c2,.bool f.sec,.slice A3 f.ret.length c3]∧
  RdRows ok w 4 A1 0 (f.params.map Pa.d)∧f.params.length*24≤reach∧f.params.length≤c1
def FoundF (ok:Nat→Prop) (o:Option Fu) (e:Ending) (w':World):Prop:=match o with
 |some f=>∃u,e= .returned (.tuple #[u,.bool true])∧f.in ok w' u
 |none=>e= .returned (.tuple #[.agg #[.string ⟨#[]⟩,.slice none 0 0,.slice none 0 0,.bool false,.slice none 0 0],.bool false])
theorem fr_swap (w:World) (X X':Obj):Fr (fun q=>q=w.heap.size) (w.alloc X) (w.alloc X'):=⟨rfl,rfl,rfl,by simp,fun k hk hs=>by
 have h1:k<w.heap.size:=by
  have h2:k≠w.heap.size:=hs;simp at hk;omega
 rw[Below.heap_alloc _ _ _ h1,Below.heap_alloc _ _ _ h1]⟩
theorem ffind_some {l:List Fu} {nm:ByteArray} (k:Nat) (hk:k<l.length) (hq:sq l[k].name nm=true) (hno:∀j,j<k→∀hj:j<l.length,sq l[j].name nm=false) (F:Nat) (hF:k<F):((l.take F).find? fun v=>sq v.name nm)=some l[k]:=by
 induction l generalizing k F with
 |nil=>simp at hk
 |cons v l ih=>
  obtain⟨F,rfl⟩:∃F',F=F'+1:=⟨F-1,by omega⟩;cases k with
  |zero=>simp at hq;simp[hq]
  |succ k=>
   have h0:=hno 0 (by omega) (by simp);simp at h0;rw[List.take_succ_cons,List.find?_cons_of_neg (by simp[h0])];exact ih k (by simpa using hk) (by simpa using hq) (fun j hj hj'=>by have:=hno (j+1) (by omega) (by simpa using hj');simpa using this) F (by omega)
theorem ffind_none {l:List Fu} {nm:ByteArray} (F:Nat) (hno:∀j,j<F→∀hj:j<l.length,sq l[j].name nm=false):((l.take F).find? fun v=>sq v.name nm)=none:=by
 rw[List.find?_eq_none];intro v hv;obtain⟨j,hj,rfl⟩:=List.mem_iff_getElem.1 hv;rw[List.length_take] at hj;rw[List.getElem_take];simp[hno j (by omega) (by omega)]
theorem func_any (base b:Nat) (PA:Option Addr) (pc:Nat) (ru:Int) (w:World) (s:Wk) (ve vg:Value) (nm:ByteArray) (l:List Fu) (ok:Nat→Prop) (F:Nat) (h:WkAt base b (.slice PA l.length pc) ru w s ve vg) (hF:s.f=(F:Int)) (hFl:F≤l.length)
  (hr:RdRows ok w 5 PA 0 (l.map Fu.d)) (hc:l.length*96≤reach) (hok:∀q,ok q→q<w.heap.size):
  Calls Tryz.prog 171 #[.pointer (some ⟨b,0,none⟩),.string nm] w fun e w'=>Fr Non w w'∧FoundF ok ((l.take F).find? fun f=>sq f.name nm) e w':=by
 have hlen:l.length≤140737488355328:=by unfold reach at hc;omega
 have hf0:Fr Non w (w.alloc (.cells #[.string ⟨#[]⟩,.slice none 0 0,.slice none 0 0,.bool false,.slice none 0 0] 53)):=(Zf w).alloc _;have hb2:=Zb h.blk hf0 (non _);rw[hF] at hb2;have b0:=(Zc hb2).1 0 _ rfl;have b1:=(Zc hb2).1 1 _ rfl;have hr0:=hr.fr hf0 (fun _ _=>non _) (fun _ h=>h);have HB:=Zh hb2;clear hb2;have HR:=Zh hr0;clear hr0 hr;have HH:=Zh h;clear h;have HF0:=Zh hf0;clear hf0;have HSF:=Zh hF;clear hF;have HOK:=Zh hok;clear hok;go_enter Tryz.func171,Tryz.ntmps171;go_wp2_with fail
 go_loop [6] (fun i=>∃k:Nat,i= .int .i64 k∧k≤F∧∀j,j<k→∀hj:j<l.length,sq l[j].name nm=false) (fun i=>F-(intOf i).toNat)
 case atStart=>exact⟨0,rfl,by omega,fun j hj=>by omega⟩
 case round=>
  obtain⟨k,rfl,hk,hno⟩:=hrel;have HN:=Zh hno;clear hno;by_cases hlt:k<F
  ·obtain⟨d,o1,A1,c1,A2,c2,A3,c3,rfl,hd,e0,e1,e2,e3,e4,⟨p1,q1,r1⟩,⟨p2,q2,r2⟩,⟨p3,q3,r3⟩⟩:=at_fu HR.out k (by omega);have R1:=Zh r1;clear r1;clear r2 r3;cases hq:sq l[k].name nm with
   |true=>
    have hq':=hq;rw[←tosq] at hq';have HQ:=Zh hq;clear hq;go_wp2_with fail;refine bodyPost_ret (v:=.tuple #[.agg #[.string l[k].name,.slice A1 l[k].params.length c1,.slice A2 l[k].body.length c2,.bool l[k].sec,.slice A3 l[k].ret.length c3],.bool true]) ?_ rfl ?_
    ·simp[results,Tryz.results171,go_sem]
    ·have hfw:∀wz,Fr (fun q=>q=w.heap.size) w wz→True:=fun _ _=>trivial;refine⟨?_,?_⟩
     ·first
       |exact(Zf w).alloc _
       |(repeat (refine Fr.setCell ?_ _ _ (.inr (Nat.le_refl _)));exact(Zf w).alloc _)
     ·rw[ffind_some k (by omega) HQ.out HN.out F hlt];refine⟨_,rfl,A1,c1,A2,c2,A3,c3,rfl,?_,q1,p1⟩
      first
       |exact R1.out.fr (Zf _) (fun _ _=>non _) (fun _ h=>h)
       |exact R1.out.fr (fr_swap _ _ _) (fun q hq e=>by have h1:=HOK.out q hq;have e:q=w.heap.size:=e;omega) (fun _ h=>h)
   |false=>
    have hq':=hq;rw[←tosq] at hq';have HQ:=Zh hq;clear hq;go_wp2_with fail
    go_round
    case rel=>exact⟨k+1,by go_num,by omega,till HN.out fun _=>HQ.out⟩
    case measure=>simp[intOf];omega
  ·go_wp2_with fail;refine bodyPost_ret (v:=.tuple #[.agg #[.string ⟨#[]⟩,.slice none 0 0,.slice none 0 0,.bool false,.slice none 0 0],.bool false]) ?_ rfl ?_
   ·simp[results,Tryz.results171,go_sem]
   ·refine⟨?_,?_⟩
    ·first
      |exact(Zf w).alloc _
      |(repeat (refine Fr.setCell ?_ _ _ (.inr (Nat.le_refl _)));exact(Zf w).alloc _)
    ·rw[ffind_none F fun j hj hj'=>HN.out j (by omega) hj'];rfl
def Wk.sealE (ru:Int) (s:Wk) (l:List Va):Wk:=l.foldl (fun s v=>s.bad ru 12 (!v.buf&&v.sec) 120) s
def Wk.sealed (ru:Int) (s:Wk) (n:Int):Wk:=(s.bad ru 11 (s.f !=n-1) 8).sealE ru s.env
theorem sealE_snoc (ru:Int) (s:Wk) (l:List Va) (v:Va):s.sealE ru (l++[v])=(s.sealE ru l).bad ru 12 (!v.buf&&v.sec) 120:=by simp[Wk.sealE]
theorem sealE_env (ru:Int) (l:List Va):∀s:Wk,(s.sealE ru l).env=s.env:=by
 induction l with
 |nil=>intro s;rfl
 |cons v l ih=>intro s;show((s.bad ru 12 (!v.buf&&v.sec) 120).sealE ru l).env=s.env;rw[ih,(bad_env _ _ _ _ _).1]
theorem seal_any (base b:Nat) (PA:Option Addr) (pn pc:Nat) (ru:Int) (w:World) (s:Wk) (ve vg:Value) (h:WkAt base b (.slice PA pn pc) ru w s ve vg) (hc:s.env.length≤1099511627776) (hpn:pn≤140737488355328):
  Calls Tryz.prog 147 #[.pointer (some ⟨b,0,none⟩)] w fun e w'=>e= .returned (.tuple #[])∧Fr (fun q=>q=b) w w'∧WkAt base b (.slice PA pn pc) ru w' (s.sealed ru pn) ve vg:=by
 obtain⟨Ae,ce,rfl,hlce⟩:=row_slice h.env;have b0:=(Zc h.blk).1 0 _ rfl;have b1:=(Zc h.blk).1 1 _ rfl;have H:=Zh h;clear h;go_enter Tryz.func147,Tryz.ntmps147;go_wp2_with fail
 go_still_tail 13,(by kernel_rfl)
 change wpList _ _ _ _ _ w.drew
 have h1:=H.out.stay (Zf w).drew;have H1:=Zh h1;clear h1;go_wp2_with fail;refine(bad_any base b (.slice PA pn pc) ru w.drew s (.slice Ae s.env.length ce) vg 11 _ 8 H1.out).mono ?_;rintro e w2 ⟨rfl,hf2,h2⟩;obtain⟨s1,hs1⟩:∃s1,s1=s.bad ru 11 (s.f !=(pn:Int)-1) 8:=⟨_,rfl⟩;have he1:s1.env=s.env:=by rw[hs1];exact(bad_env _ _ _ _ _).1
 have h2':WkAt base b (.slice PA pn pc) ru w2 s1 (.slice Ae s.env.length ce) vg:=by rw[hs1];exact h2
 have HS1:=Zh hs1;clear hs1 h2;have HE1:=Zh he1;clear he1;have H2:=Zh h2';clear h2';have HF2:=Zh ((Zf w).drew.non.trans hf2);clear hf2 b0 b1;go_wp2_with fail
 go_loopw [2] (fun i wr=>∃k:Nat,i= .int .i64 k∧k≤s.env.length∧Fr (fun q=>q=b) w wr∧WkAt base b (.slice PA pn pc) ru wr (s1.sealE ru (s.env.take k)) (.slice Ae s.env.length ce) vg) (fun i _=>s.env.length-(intOf i).toNat)
 case atStart=>exact⟨0,rfl,by omega,HF2.out,H2.out⟩
 case round=>
  obtain⟨k,rfl,hk,hfr,hw⟩:=hrel;have b2:=(Zc hw.blk).1 2 _ rfl;have HW:=Zh hw;clear hw;have HF:=Zh hfr;clear hfr;by_cases hlt:k<s.env.length
  ·have henv:=HW.out.env;rw[sealE_env,HE1.out] at henv;obtain⟨g,rfl,hg,hcell⟩:=row_at henv (by omega);obtain⟨⟨v0,v1,v2,_⟩,_⟩:=va_cells hcell k hlt;clear hcell henv v0;cases hbf:s.env[k].buf<;>rw[hbf] at v1;all_goals
    have HBF:=Zh hbf;clear hbf;go_wp2_with fail;refine(bad_any base b (.slice PA pn pc) ru wr _ _ vg 12 _ 120 HW.out).mono ?_;rintro e w3 ⟨rfl,hf3,h3⟩;go_wp2_with fail;go_roundw
    case rel=>exact⟨k+1,by go_num,by omega,HF.out.trans hf3,by rw[take_snoc _ _ hlt,sealE_snoc,HBF.out];exact h3⟩
    case measure=>simp[intOf];omega
  ·obtain rfl:k=s.env.length:=by omega
   go_wp2_with fail
   go_end0
   have h:=HW.out;rw[List.take_length,HS1.out] at h;exact⟨rfl,HF.out,h⟩
section
def Wk.func (P:List Fu) (s:Wk) (nm:ByteArray):Option Fu:=(P.take s.f.toNat).find? fun f=>sq f.name nm
def Wk.lentN (ru:Int) (args:List ByteArray) (k:Nat) (mt:Bool) (s:Wk):Nat→Wk
 |0=>s
 |j+1=>(Wk.lentN ru args k mt s j).bad ru 13 (j !=k&&sq (args.getD j nob) (args.getD k nob)&&mt) 130
def Wk.hand1 (ru:Int) (args:List ByteArray) (k:Nat) (s:Wk) (x:Pa):Wk:=
 let v:=(s.find (args.getD k nob)).getD Va.zero
 Wk.lentN ru args k x.mt (((s.bad ru 11 (x.mt&& !v.mt) 8).bad ru 12 (x.sec !=v.sec) 120).bad ru 13 (x.mt&&v.lent==1) 130) args.length
def Wk.handN (ru:Int) (ps:List Pa) (args:List ByteArray) (s:Wk):Nat→Nat×Wk
 |0=>(0,s)
 |i+1=>
  let r:=Wk.handN ru ps args s i
  if !(ps.getD i Pa.zero).buf||decide (args.length≤r.1) then r else(r.1+1,Wk.hand1 ru args r.1 r.2 (ps.getD i Pa.zero))
def Wk.handed (ru:Int) (ps:List Pa) (args:List ByteArray) (s:Wk):Wk:=
 (Wk.handN ru ps args s ps.length).2.bad ru 11 ((Wk.handN ru ps args s ps.length).1 !=args.length) 8
def Wk.callN (ru:Int) (ps:List Pa) (ex:List Ex) (s:Wk):Nat→Nat×Nat×Wk
 |0=>(0,0,s)
 |i+1=>
  let r:=Wk.callN ru ps ex s i
  if(ps.getD i Pa.zero).buf then(r.1,r.2.1+1,r.2.2)
  else(r.1+1,r.2.1,if r.1<ex.length then r.2.2.opn ru (ex.getD r.1 Ex.zero) (ps.getD i Pa.zero).sec else r.2.2)
def Wk.secN (ru:Int) (ex:List Ex) (n:Nat) (s:Wk):Nat→Wk
 |0=>s
 |i+1=>(Wk.sec ru (ex.getD (n+i) Ex.zero) (Wk.secN ru ex n s i)).2
def Wk.askN (ru:Int) (args:List ByteArray) (s:Wk):Nat→Wk
 |0=>s
 |i+1=>((Wk.askN ru args s i).ask ru (args.getD i nob) true).2
def Va.num (nm:ByteArray) (sec set:Bool):Va:=⟨nm,false,sec,false,false,set,false,0,0⟩
def Va.bufv (nm:ByteArray) (sec mt own:Bool):Va:=⟨nm,true,sec,mt,own,false,false,0,0⟩
def Wk.call2 (ru:Int) (f:Option Fu) (nm:ByteArray) (ex:List Ex) (args:List ByteArray) (s:Wk):Wk:=
 let ps:=(f.getD Fu.zero).params
 let r:=Wk.callN ru ps ex s ps.length
 let s2:=Wk.secN ru ex r.1 r.2.2 (ex.length-r.1)
 let s3:=Wk.askN ru args s2 args.length
 ((s3.bad ru 10 (!f.isSome) 3).bad ru 11 (r.1 !=ex.length||r.2.1 !=args.length|| !emp nm&&(f.getD Fu.zero).ret.length==0) 8).handed ru ps args
def Wk.call (ru:Int) (P:List Fu) (nm fr:ByteArray) (ex:List Ex) (args:List ByteArray) (s:Wk):Wk:=
 let f:=s.func P fr
 let s5:=s.call2 ru f nm ex args
 if emp nm then s5 else s5.give ru (Va.num nm (f.getD Fu.zero).sec false)
def Wk.cut (s:Wk) (m:Nat):Wk:={s with env:=s.env.take m}
def Wk.lend1 (ru:Int) (fr:ByteArray) (mt:Bool) (ex:List Ex) (s:Wk):Va×Wk:=
 let r:=((s.pub ru (exAt ex 0)).pub ru (exAt ex 1)).ask ru fr true
 let s4:=if mt then(r.2.turned ru fr).2 else r.2
 (r.1,s4.put {r.1 with lent:=if mt then 2 else max r.1.lent 1})
def Wk.lend3 (fr:ByteArray) (v:Va) (s:Wk):Wk:=s.put {(s.find fr).getD Va.zero with lent:=v.lent}
def Wk.move (ru:Int) (nm fr:ByteArray) (s:Wk):Wk:=
 let r:=s.ask ru fr true
 (((((r.2.bad ru 11 (!r.1.own) 8).bad ru 13 (r.1.lent==1) 130).bad ru 14 (r.1.loops !=r.2.loops) 140).put {r.1 with gone:=true})).give ru (Va.bufv nm r.1.sec true true)
def gones:List Va→List Va→List Va
 |v::l,x::r=>{v with gone:=v.gone||x.gone}::gones l r
 |l,_=>l
def Wk.next (s:Wk):Wk:={s with n:=s.n+1}
def Wk.back (s:Wk) (e:List Va):Wk:={s with env:=e}
def Wk.join (s:Wk) (e:List Va):Wk:={s with env:=gones s.env e}
def Wk.deeper (s:Wk):Wk:={s with loops:=s.loops+1}
def Wk.loopIn (ru:Int) (k:UInt8) (nm:ByteArray) (ex:List Ex) (s:Wk):Wk:=
 if k.toNat=7 then(s.pub ru (exAt ex 0)).deeper.give ru (Va.num nm false false) else(s.pub ru (exAt ex 0)).deeper
def Wk.loopOut (s:Wk) (m:Nat):Wk:={s with loops:=s.loops-1,env:=s.env.take m}
mutual
def Wk.stmt (ru:Int) (P:List Fu):St→Wk→Wk
 | .mk k nm fr sec mt ex args body els,s=>
   if k.toNat=1 then(s.opn ru (exAt ex 0) sec).give ru (Va.num nm sec true)
   else if k.toNat=2 then
    let r:=Wk.sec ru (exAt ex 0) s
    let v:=r.2.ask ru nm false
    (v.2.bad ru 11 (!v.1.set) 8).bad ru 12 (r.1&& !v.1.sec) 120
   else if k.toNat=3 then(s.pub ru (exAt ex 0)).give ru (Va.bufv nm sec true true)
   else if k.toNat=4 then
    let r:=Wk.sec ru (exAt ex 1) (s.pub ru (exAt ex 0))
    let v:=r.2.turned ru nm
    v.2.bad ru 12 (r.1&& !v.1.sec) 120
   else if k.toNat=5 then
    let s1:=s.pub ru (exAt ex 0)
    let s2:=(Wk.stmts ru P body s1).cut s1.env.length
    ((Wk.stmts ru P els (s2.back s1.env)).cut s1.env.length).join s2.env
   else if k.toNat=6∨k.toNat=7 then
    let s3:=s.loopIn ru k nm ex
    ((Wk.stmts ru P body s3).cut s3.env.length).loopOut (s.pub ru (exAt ex 0)).env.length
   else if k.toNat=8 then
    let r:=s.lend1 ru fr mt ex
    let s6:=r.2.give ru (Va.bufv nm r.1.sec mt false)
    let s7:=(Wk.stmts ru P body s6).cut s6.env.length
    (s7.cut r.2.env.length).lend3 fr r.1
   else if k.toNat=9 then s.move ru nm fr
   else if k.toNat=10 then(Wk.sec ru (exAt ex 0) s).2.give ru (Va.num nm false false)
   else if k.toNat=11 then s.call ru P nm fr ex args
   else s.sealed ru P.length
def Wk.stmts (ru:Int) (P:List Fu):List St→Wk→Wk
 |[],s=>s
 |x::l,s=>Wk.stmts ru P l (Wk.stmt ru P x s.next)
end
def Wk.block (ru:Int) (P:List Fu) (l:List St) (s:Wk):Wk:=(Wk.stmts ru P l s).cut s.env.length
def Wk.headN (ru:Int) (P:List Fu) (nm:ByteArray) (s:Wk):Nat→Wk
 |0=>s
 |i+1=>(Wk.headN ru P nm s i).bad ru 10 (sq (P.getD i Fu.zero).name nm) 9
def Wk.paramN (ru:Int) (ps:List Pa) (s:Wk):Nat→Wk
 |0=>s
 |i+1=>(Wk.paramN ru ps s i).give ru ⟨(ps.getD i Pa.zero).name,(ps.getD i Pa.zero).buf,(ps.getD i Pa.zero).sec,(ps.getD i Pa.zero).mt,false,false,false,0,0⟩
def Wk.fresh (s:Wk):Wk:={s with env:=[],given:=[]}
def Wk.onF (s:Wk):Wk:={s with f:=s.f+1}
def Wk.head (ru:Int) (P:List Fu) (f:Fu) (s:Wk):Wk:=
 Wk.paramN ru f.params (Wk.headN ru P f.name s s.f.toNat).fresh f.params.length
def Wk.retN (ru:Int) (ret:List Ex) (sec:Bool) (s:Wk):Nat→Wk
 |0=>s
 |i+1=>(Wk.retN ru ret sec s i).opn ru (ret.getD i Ex.zero) sec
def Wk.tail (ru:Int) (f:Fu) (s:Wk):Wk:=
 (Wk.retN ru f.ret f.sec s.next f.ret.length).next
def Wk.fun1 (ru:Int) (P:List Fu) (f:Fu) (s:Wk):Wk:=(Wk.stmts ru P f.body (s.head ru P f)).tail ru f
def Wk.walkN (ru:Int) (P:List Fu) (s:Wk):Nat→Wk
 |0=>{s with f:=0}
 |i+1=>(Wk.fun1 ru P (P.getD i Fu.zero) (Wk.walkN ru P s i)).onF
def Wk.zero:Wk:=⟨[],[],0,0,0,0,0⟩
def Wk.walk (ru:Int) (P:List Fu):Wk:=Wk.walkN ru P Wk.zero P.length
def refN (P:List Fu):Nat→Int×Int
 |0=>(0,0)
 |i+1=>if(refN P i).2≠0 then refN P i else let s:=Wk.walk (10+i:Nat) P;if s.fine then(0,0) else(s.fat,s.ferr)
def refCheck (P:List Fu) (rules:Nat):Int×Int:=if mayM P then refN P (rules-9) else(0,2)
section
variable (ru:Int) (P:List Fu) (k:UInt8) (nm fr:ByteArray) (sec mt:Bool) (ex:List Ex) (args:List ByteArray) (body els:List St) (s:Wk)
theorem stmt_1 (h:k.toNat=1):Wk.stmt ru P (.mk k nm fr sec mt ex args body els) s=(s.opn ru (exAt ex 0) sec).give ru (Va.num nm sec true):=by
 conv=>lhs;unfold Wk.stmt
 rw[if_pos h]
theorem stmt_2 (h:k.toNat=2):Wk.stmt ru P (.mk k nm fr sec mt ex args body els) s=((((Wk.sec ru (exAt ex 0) s).2.ask ru nm false).2.bad ru 11 (!((Wk.sec ru (exAt ex 0) s).2.ask ru nm false).1.set) 8).bad ru 12 ((Wk.sec ru (exAt ex 0) s).1&& !((Wk.sec ru (exAt ex 0) s).2.ask ru nm false).1.sec) 120):=by
 conv=>lhs;unfold Wk.stmt
 rw[if_neg (by omega),if_pos h]
theorem stmt_3 (h:k.toNat=3):Wk.stmt ru P (.mk k nm fr sec mt ex args body els) s=(s.pub ru (exAt ex 0)).give ru (Va.bufv nm sec true true):=by
 conv=>lhs;unfold Wk.stmt
 rw[if_neg (by omega),if_neg (by omega),if_pos h]
theorem stmt_4 (h:k.toNat=4):Wk.stmt ru P (.mk k nm fr sec mt ex args body els) s=((Wk.sec ru (exAt ex 1) (s.pub ru (exAt ex 0))).2.turned ru nm).2.bad ru 12 ((Wk.sec ru (exAt ex 1) (s.pub ru (exAt ex 0))).1&& !((Wk.sec ru (exAt ex 1) (s.pub ru (exAt ex 0))).2.turned ru nm).1.sec) 120:=by
 conv=>lhs;unfold Wk.stmt
 rw[if_neg (by omega),if_neg (by omega),if_neg (by omega),if_pos h]
theorem stmt_5 (h:k.toNat=5):Wk.stmt ru P (.mk k nm fr sec mt ex args body els) s=((Wk.stmts ru P els (((Wk.stmts ru P body (s.pub ru (exAt ex 0))).cut (s.pub ru (exAt ex 0)).env.length).back (s.pub ru (exAt ex 0)).env)).cut (s.pub ru (exAt ex 0)).env.length).join ((Wk.stmts ru P body (s.pub ru (exAt ex 0))).cut (s.pub ru (exAt ex 0)).env.length).env:=by
 conv=>lhs;unfold Wk.stmt
 rw[if_neg (by omega),if_neg (by omega),if_neg (by omega),if_neg (by omega),if_pos h]
theorem stmt_67 (h:k.toNat=6∨k.toNat=7):Wk.stmt ru P (.mk k nm fr sec mt ex args body els) s=((Wk.stmts ru P body (s.loopIn ru k nm ex)).cut (s.loopIn ru k nm ex).env.length).loopOut (s.pub ru (exAt ex 0)).env.length:=by
 conv=>lhs;unfold Wk.stmt
 rw[if_neg (by omega),if_neg (by omega),if_neg (by omega),if_neg (by omega),if_neg (by omega),if_pos h]
theorem stmt_8 (h:k.toNat=8):Wk.stmt ru P (.mk k nm fr sec mt ex args body els) s=
  (((Wk.stmts ru P body ((s.lend1 ru fr mt ex).2.give ru (Va.bufv nm (s.lend1 ru fr mt ex).1.sec mt false))).cut ((s.lend1 ru fr mt ex).2.give ru (Va.bufv nm (s.lend1 ru fr mt ex).1.sec mt false)).env.length).cut (s.lend1 ru fr mt ex).2.env.length).lend3 fr (s.lend1 ru fr mt ex).1:=by
 conv=>lhs;unfold Wk.stmt
 rw[if_neg (by omega),if_neg (by omega),if_neg (by omega),if_neg (by omega),if_neg (by omega),if_neg (by omega),if_pos h]
theorem stmt_9 (h:k.toNat=9):Wk.stmt ru P (.mk k nm fr sec mt ex args body els) s=s.move ru nm fr:=by
 conv=>lhs;unfold Wk.stmt
 rw[if_neg (by omega),if_neg (by omega),if_neg (by omega),if_neg (by omega),if_neg (by omega),if_neg (by omega),if_neg (by omega),if_pos h]
theorem stmt_10 (h:k.toNat=10):Wk.stmt ru P (.mk k nm fr sec mt ex args body els) s=(Wk.sec ru (exAt ex 0) s).2.give ru (Va.num nm false false):=by
 conv=>lhs;unfold Wk.stmt
 rw[if_neg (by omega),if_neg (by omega),if_neg (by omega),if_neg (by omega),if_neg (by omega),if_neg (by omega),if_neg (by omega),if_neg (by omega),if_pos h]
theorem stmt_11 (h:k.toNat=11):Wk.stmt ru P (.mk k nm fr sec mt ex args body els) s=s.call ru P nm fr ex args:=by
 conv=>lhs;unfold Wk.stmt
 rw[if_neg (by omega),if_neg (by omega),if_neg (by omega),if_neg (by omega),if_neg (by omega),if_neg (by omega),if_neg (by omega),if_neg (by omega),if_neg (by omega),if_pos h]
theorem stmt_12 (h:11<k.toNat):Wk.stmt ru P (.mk k nm fr sec mt ex args body els) s=s.sealed ru P.length:=by
 conv=>lhs;unfold Wk.stmt
 rw[if_neg (by omega),if_neg (by omega),if_neg (by omega),if_neg (by omega),if_neg (by omega),if_neg (by omega),if_neg (by omega),if_neg (by omega),if_neg (by omega),if_neg (by omega)]
end
end
end Go.Proofs.YtpkpgmnbheenbaaGreatDoor
