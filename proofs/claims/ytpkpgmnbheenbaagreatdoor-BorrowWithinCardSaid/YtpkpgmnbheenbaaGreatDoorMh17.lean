/- Contracts and laws, Mh17 -/
import Derived.Test.YtpkpgmnbheenbaaGreatDoorMh01
import Derived.Test.YtpkpgmnbheenbaaGreatDoorMh02
import Derived.Test.YtpkpgmnbheenbaaGreatDoorMh03
import Derived.Test.YtpkpgmnbheenbaaGreatDoorMh04
import Derived.Test.YtpkpgmnbheenbaaGreatDoorMh16
import Derived.Deep.CutBlock
import Derived.Outline
import Derived.Deep.RegionWith
import Derived.Deep.AppendLies
import Derived.Deep.DeepCutAuto
import Derived.Deep.RegionHeld3
import Derived.Deep.RegionLaw
import Derived.StillTailTactics
import Derived.Maps.RangeRun
import Derived.Maps.Range
import Derived.Laws.Externs
namespace Go.Proofs.YtpkpgmnbheenbaaGreatDoor
open Go.RowKit
set_option linter.unusedVariables false
set_option linter.unusedSimpArgs false
set_option maxHeartbeats 8000000
set_option maxRecDepth 100000
theorem egive_any (base b:Nat) (PV:Value) (ru:Int) (F:Nat) (w:World) (a:Ev) (bk:Nat) (nm:ByteArray) (x:Nm) (h:EvAt base b PV ru F w a bk):
  Calls Tryz.prog 64 #[.pointer (some ⟨b,0,none⟩),.string nm,x.v] w fun e w'=>e= .returned (.tuple #[])∧Fr (fun k=>k=bk) w w'∧EvAt base b PV ru F w' (a.give nm x) bk:=by
 obtain⟨W1,HW1⟩:∃W1,W1=w.alloc (.cells #[.bool x.buf,.bool x.sec,.bool x.mt,.bool x.own,.bool x.set,.bool x.gone,.int .i64 x.lent,.int .i64 x.loops] 104):=⟨_,rfl⟩;have hf1:Fr Non w W1:=by rw[HW1];exact(Zf w).alloc _
 have hb1:W1.heap[w.heap.size]? =some (.cells #[.bool x.buf,.bool x.sec,.bool x.mt,.bool x.own,.bool x.set,.bool x.gone,.int .i64 x.lent,.int .i64 x.loops] 104 (0,0)):=by rw[HW1];exact blk_new _ _ _
 have h1:=h.stay hf1;have b4:=(Zc h1.blk).1 4 _ rfl;have xf:=(Zc hb1).2;have x7:=(Zc hb1).1 7 _ rfl;have hb2:=blk_set hb1 7 (.int .i64 a.loops);have hf2:Fr (fun k=>k=w.heap.size) W1 (W1.setCell ⟨w.heap.size,7,none⟩ (.int .i64 a.loops)):=(Fr.refl _ W1).setCell _ _ (.inl rfl);have hl:=h.lt;have h2:=h1.fr hf2 (fun k hk e=>by have:=(hl k hk).2;have e:k=w.heap.size:=e;omega);have HF2:=Zh (show Fr Non w (W1.setCell ⟨w.heap.size,7,none⟩ (.int .i64 a.loops)) from hf1.setCell _ _ (.inr (Nat.le_refl _)));have H:=Zh h;clear h;have H1:=Zh h1;clear h1;have HB2:=Zh hb2;clear hb2;have H2:=Zh h2;clear h2;clear hf1 hf2;go_enter Tryz.func64,Tryz.ntmps64;go_upto_region 1 with fail;rw[←HW1];clear HW1;go_upto_region 2 with fail;generalize W1.setCell ⟨w.heap.size,7,none⟩ (.int .i64 a.loops)=W2 at*;clear b4 xf x7 hb1;have b5:=(Zc H2.out.blk).1 5 _ rfl;have x0:=(Zc HB2.out).1 0 _ rfl;have x1:=(Zc HB2.out).1 1 _ rfl;have x2:=(Zc HB2.out).1 2 _ rfl;have x3:=(Zc HB2.out).1 3 _ rfl;have x4:=(Zc HB2.out).1 4 _ rfl;have x5:=(Zc HB2.out).1 5 _ rfl;have x6:=(Zc HB2.out).1 6 _ rfl;have x7:=(Zc HB2.out).1 7 _ rfl;have hd:=H2.out.stay (Zf W2).drew;obtain⟨w3,hr,hm,hf3⟩:=hd.nm.put undNm undStr nm ({x with loops:=a.loops}:Nm).v;rw[mput_nvs] at hm;have h3:EvAt base b PV ru F w3 (a.give nm x) bk:=⟨Zb hd.blk hf3 (fun e=>hd.ne e.symm),hm,hd.hb,hd.hk⟩;have H3:=Zh h3;clear h3;have HF3:=Zh (((HF2.out.trans (Zf W2).drew).non).trans hf3);clear hm hf3 hd
 go_still_tail 6,(by kernel_rfl)
 change wpList _ _ _ _ _ W2.drew
 go_wp2_with fail
 go_end0
 exact⟨rfl,HF3.out,H3.out⟩
theorem enum_any (base b:Nat) (PV:Value) (ru:Int) (F:Nat) (w:World) (a:Ev) (bk:Nat) (nm:ByteArray) (h:EvAt base b PV ru F w a bk):
  Calls Tryz.prog 126 #[.pointer (some ⟨b,0,none⟩),.string nm] w fun e w'=>VaR a.n ru ((a.g nm).numOk ru) (a.g nm).v e∧Fr Non w w':=by
 obtain⟨W1,HW1⟩:∃W1,W1=w.alloc (.cells #[.bool false,.bool false,.bool false,.bool false,.bool false,.bool false,.int .i64 0,.int .i64 0] 104):=⟨_,rfl⟩;have hf1:Fr Non w W1:=by rw[HW1];exact(Zf w).alloc _
 have hb1:W1.heap[w.heap.size]? =some (.cells #[.bool false,.bool false,.bool false,.bool false,.bool false,.bool false,.int .i64 0,.int .i64 0] 104 (0,0)):=by rw[HW1];exact blk_new _ _ _
 have h1:=h.stay hf1;have hl:=h1.look nm;obtain⟨x,hx⟩:∃x,a.g nm=x:=⟨_,rfl⟩;rw[hx] at hl ⊢;clear hx;obtain⟨W2,HW2⟩:∃W2,W2=W1.alloc (.cells #[.bool x.buf,.bool x.sec,.bool x.mt,.bool x.own,.bool x.set,.bool x.gone,.int .i64 x.lent,.int .i64 x.loops] 104):=⟨_,rfl⟩;have hf2:Fr Non W1 W2:=by rw[HW2];exact(Zf _).alloc _
 have hb2:W2.heap[W1.heap.size]? =some (.cells #[.bool x.buf,.bool x.sec,.bool x.mt,.bool x.own,.bool x.set,.bool x.gone,.int .i64 x.lent,.int .i64 x.loops] 104 (0,0)):=by rw[HW2];exact blk_new _ _ _
 have b5:=(Zc h1.blk).1 5 _ rfl;have H2:=Zh (h1.stay hf2);have HR:=Zh (Zb hb1 hf2 (non _));have HF:=Zh (hf1.trans hf2);have HB2:=Zh hb2;clear hb2 hf1 hf2 hb1 h1 h;have HK:=Zh (ekind_any base b PV ru F W2 a bk (!x.buf) H2.out);go_enter Tryz.func126,Tryz.ntmps126;go_upto_region 1 with fail;rw[←HW1];clear HW1;go_upto_region 2 with fail;rw[←HW2];clear HW2 hl b5;have x0:=(Zc HB2.out).1 0 _ rfl;go_wp2_with fail;refine HK.out.mono ?_;rintro e w3 ⟨he,rfl⟩;cases hk:chk ru 1 (!x.buf) with
 |false=>
  rw[hk] at he;obtain rfl:=he.f;clear he;have HC:=Zh hk;clear hk;go_wp2_with fail;exact⟨rfl,vaR_f HC.out,HF.out⟩
 |true=>
  rw[hk] at he;obtain rfl:=he.t;clear he;have HC:=Zh hk;clear hk x0;have x0:=(Zc HB2.out).1 0 _ rfl;have x1:=(Zc HB2.out).1 1 _ rfl;have x2:=(Zc HB2.out).1 2 _ rfl;have x3:=(Zc HB2.out).1 3 _ rfl;have x4:=(Zc HB2.out).1 4 _ rfl;have x5:=(Zc HB2.out).1 5 _ rfl;have x6:=(Zc HB2.out).1 6 _ rfl;have x7:=(Zc HB2.out).1 7 _ rfl;have f0:=(Zc HR.out).1 0 _ rfl;have f1:=(Zc HR.out).1 1 _ rfl;have f2:=(Zc HR.out).1 2 _ rfl;have f3:=(Zc HR.out).1 3 _ rfl;have f4:=(Zc HR.out).1 4 _ rfl;have f5:=(Zc HR.out).1 5 _ rfl;have f6:=(Zc HR.out).1 6 _ rfl;have f7:=(Zc HR.out).1 7 _ rfl;have ff:=(Zc HR.out).2;go_wp2_with fail;have HZ:=Zh (blk_put8 HR.out (.bool x.buf) (.bool x.sec) (.bool x.mt) (.bool x.own) (.bool x.set) (.bool x.gone) (.int .i64 x.lent) (.int .i64 x.loops));have HFZ:=Zh (fr_put8 (g:=w.heap.size) (w:=W2) (S:=fun q=>q=w.heap.size) rfl (.bool x.buf) (.bool x.sec) (.bool x.mt) (.bool x.own) (.bool x.set) (.bool x.gone) (.int .i64 x.lent) (.int .i64 x.loops));generalize ((((((((W2.setCell ⟨w.heap.size,0,none⟩ (.bool x.buf)).setCell ⟨w.heap.size,1,none⟩ (.bool x.sec)).setCell ⟨w.heap.size,2,none⟩ (.bool x.mt)).setCell ⟨w.heap.size,3,none⟩ (.bool x.own)).setCell ⟨w.heap.size,4,none⟩ (.bool x.set)).setCell ⟨w.heap.size,5,none⟩ (.bool x.gone)).setCell ⟨w.heap.size,6,none⟩ (.int .i64 x.lent)).setCell ⟨w.heap.size,7,none⟩ (.int .i64 x.loops))=wz at*;clear f0 f1 f2 f3 f4 f5 f6 f7 ff;have f0:=(Zc HZ.out).1 0 _ rfl;have f1:=(Zc HZ.out).1 1 _ rfl;have f2:=(Zc HZ.out).1 2 _ rfl;have f3:=(Zc HZ.out).1 3 _ rfl;have f4:=(Zc HZ.out).1 4 _ rfl;have f5:=(Zc HZ.out).1 5 _ rfl;have f6:=(Zc HZ.out).1 6 _ rfl;have f7:=(Zc HZ.out).1 7 _ rfl;refine bodyPost_ret (v:=x.v) (by simp[results,Tryz.results126,go_sem,f0,f1,f2,f3,f4,f5,f6,f7]) rfl ⟨vaR_t HC.out,HF.out.then HFZ.out (fun k hk e=>by have e:k=w.heap.size:=e;omega)⟩
theorem ebuf_any (base b:Nat) (PV:Value) (ru:Int) (F:Nat) (w:World) (a:Ev) (bk:Nat) (nm:ByteArray) (h:EvAt base b PV ru F w a bk):
  Calls Tryz.prog 131 #[.pointer (some ⟨b,0,none⟩),.string nm] w fun e w'=>VaR a.n ru ((a.g nm).bufOk ru) (a.g nm).v e∧Fr Non w w':=by
 obtain⟨W1,HW1⟩:∃W1,W1=w.alloc (.cells #[.bool false,.bool false,.bool false,.bool false,.bool false,.bool false,.int .i64 0,.int .i64 0] 104):=⟨_,rfl⟩;have hf1:Fr Non w W1:=by rw[HW1];exact(Zf w).alloc _
 have hb1:W1.heap[w.heap.size]? =some (.cells #[.bool false,.bool false,.bool false,.bool false,.bool false,.bool false,.int .i64 0,.int .i64 0] 104 (0,0)):=by rw[HW1];exact blk_new _ _ _
 have h1:=h.stay hf1;have hl:=h1.look nm;obtain⟨x,hx⟩:∃x,a.g nm=x:=⟨_,rfl⟩;rw[hx] at hl ⊢;clear hx;obtain⟨W2,HW2⟩:∃W2,W2=W1.alloc (.cells #[.bool x.buf,.bool x.sec,.bool x.mt,.bool x.own,.bool x.set,.bool x.gone,.int .i64 x.lent,.int .i64 x.loops] 104):=⟨_,rfl⟩;have hf2:Fr Non W1 W2:=by rw[HW2];exact(Zf _).alloc _
 have hb2:W2.heap[W1.heap.size]? =some (.cells #[.bool x.buf,.bool x.sec,.bool x.mt,.bool x.own,.bool x.set,.bool x.gone,.int .i64 x.lent,.int .i64 x.loops] 104 (0,0)):=by rw[HW2];exact blk_new _ _ _
 have b5:=(Zc h1.blk).1 5 _ rfl;have H2:=Zh (h1.stay hf2);have HR:=Zh (Zb hb1 hf2 (non _));have HF:=Zh (hf1.trans hf2);have HB2:=Zh hb2;clear hb2 hf1 hf2 hb1 h1 h;go_enter Tryz.func131,Tryz.ntmps131;go_upto_region 1 with fail;rw[←HW1];clear HW1;go_upto_region 2 with fail;rw[←HW2];clear HW2 hl b5;have x0:=(Zc HB2.out).1 0 _ rfl;go_wp2_with fail;refine(ekind_any base b PV ru F W2 a bk x.buf H2.out).mono ?_;rintro e w3 ⟨he,rfl⟩;cases hk:chk ru 1 x.buf with
 |false=>
  rw[hk] at he;obtain rfl:=he.f;clear he;have HC3:=Zh hk;clear hk;go_wp2_with fail;exact⟨rfl,vaR_f (by rw[Nm.bufOk,HC3.out];rfl),HF.out⟩
 |true=>
  rw[hk] at he;obtain rfl:=he.t;clear he;have HC3:=Zh hk;clear hk;clear x0;have x6:=(Zc HB2.out).1 6 _ rfl;go_wp2_with fail;refine(efree_any base b PV ru F W2 a bk (decide (x.lent<2)) H2.out).mono ?_;rintro e w4 ⟨he,rfl⟩;cases hk:chk ru 3 (decide (x.lent<2)) with
  |false=>
   rw[hk] at he;obtain rfl:=he.f;clear he;have HC4:=Zh hk;clear hk;go_wp2_with fail;exact⟨rfl,vaR_f (by rw[Nm.bufOk,HC3.out,HC4.out];rfl),HF.out⟩
  |true=>
   rw[hk] at he;obtain rfl:=he.t;clear he;have HC4:=Zh hk;clear hk;clear x6;have x5:=(Zc HB2.out).1 5 _ rfl;go_wp2_with fail;refine(ethere_any base b PV ru F W2 a bk (!x.gone) H2.out).mono ?_;rintro e w5 ⟨he,rfl⟩;cases hk:chk ru 4 (!x.gone) with
   |false=>
    rw[hk] at he;obtain rfl:=he.f;clear he;have HC5:=Zh hk;clear hk;go_wp2_with fail;exact⟨rfl,vaR_f (by rw[Nm.bufOk,HC3.out,HC4.out,HC5.out];rfl),HF.out⟩
   |true=>
    rw[hk] at he;obtain rfl:=he.t;clear he;have HC5:=Zh hk;clear hk;clear x5;have x0:=(Zc HB2.out).1 0 _ rfl;have x1:=(Zc HB2.out).1 1 _ rfl;have x2:=(Zc HB2.out).1 2 _ rfl;have x3:=(Zc HB2.out).1 3 _ rfl;have x4:=(Zc HB2.out).1 4 _ rfl;have x5:=(Zc HB2.out).1 5 _ rfl;have x6:=(Zc HB2.out).1 6 _ rfl;have x7:=(Zc HB2.out).1 7 _ rfl;have f0:=(Zc HR.out).1 0 _ rfl;have f1:=(Zc HR.out).1 1 _ rfl;have f2:=(Zc HR.out).1 2 _ rfl;have f3:=(Zc HR.out).1 3 _ rfl;have f4:=(Zc HR.out).1 4 _ rfl;have f5:=(Zc HR.out).1 5 _ rfl;have f6:=(Zc HR.out).1 6 _ rfl;have f7:=(Zc HR.out).1 7 _ rfl;have ff:=(Zc HR.out).2;go_wp2_with fail;have HZ:=Zh (blk_put8 HR.out (.bool x.buf) (.bool x.sec) (.bool x.mt) (.bool x.own) (.bool x.set) (.bool x.gone) (.int .i64 x.lent) (.int .i64 x.loops));have HFZ:=Zh (fr_put8 (g:=w.heap.size) (w:=W2) (S:=fun q=>q=w.heap.size) rfl (.bool x.buf) (.bool x.sec) (.bool x.mt) (.bool x.own) (.bool x.set) (.bool x.gone) (.int .i64 x.lent) (.int .i64 x.loops));generalize ((((((((W2.setCell ⟨w.heap.size,0,none⟩ (.bool x.buf)).setCell ⟨w.heap.size,1,none⟩ (.bool x.sec)).setCell ⟨w.heap.size,2,none⟩ (.bool x.mt)).setCell ⟨w.heap.size,3,none⟩ (.bool x.own)).setCell ⟨w.heap.size,4,none⟩ (.bool x.set)).setCell ⟨w.heap.size,5,none⟩ (.bool x.gone)).setCell ⟨w.heap.size,6,none⟩ (.int .i64 x.lent)).setCell ⟨w.heap.size,7,none⟩ (.int .i64 x.loops))=wz at*;clear f0 f1 f2 f3 f4 f5 f6 f7 ff;have f0:=(Zc HZ.out).1 0 _ rfl;have f1:=(Zc HZ.out).1 1 _ rfl;have f2:=(Zc HZ.out).1 2 _ rfl;have f3:=(Zc HZ.out).1 3 _ rfl;have f4:=(Zc HZ.out).1 4 _ rfl;have f5:=(Zc HZ.out).1 5 _ rfl;have f6:=(Zc HZ.out).1 6 _ rfl;have f7:=(Zc HZ.out).1 7 _ rfl;refine bodyPost_ret (v:=x.v) (by simp[results,Tryz.results131,go_sem,f0,f1,f2,f3,f4,f5,f6,f7]) rfl ⟨vaR_t (by rw[Nm.bufOk,HC3.out,HC4.out,HC5.out];rfl),HF.out.then HFZ.out (fun k hk e=>by have e:k=w.heap.size:=e;omega)⟩
theorem eturn_any (base b:Nat) (PV:Value) (ru:Int) (F:Nat) (w:World) (a:Ev) (bk:Nat) (nm:ByteArray) (h:EvAt base b PV ru F w a bk):
  Calls Tryz.prog 128 #[.pointer (some ⟨b,0,none⟩),.string nm] w fun e w'=>VaR a.n ru ((a.g nm).turnOk ru) (a.g nm).v e∧Fr Non w w':=by
 obtain⟨W1,HW1⟩:∃W1,W1=w.alloc (.cells #[.bool false,.bool false,.bool false,.bool false,.bool false,.bool false,.int .i64 0,.int .i64 0] 104):=⟨_,rfl⟩;have hf1:Fr Non w W1:=by rw[HW1];exact(Zf w).alloc _
 have hb1:W1.heap[w.heap.size]? =some (.cells #[.bool false,.bool false,.bool false,.bool false,.bool false,.bool false,.int .i64 0,.int .i64 0] 104 (0,0)):=by rw[HW1];exact blk_new _ _ _
 have HB:=Zh (ebuf_any base b PV ru F W1 a bk nm (h.stay hf1));have H:=Zh h;obtain⟨x,hx⟩:∃x,a.g nm=x:=⟨_,rfl⟩;rw[hx] at HB ⊢;clear hx h;have HR1:=Zh hb1;clear hb1;have HF1:=Zh hf1;clear hf1;go_enter Tryz.func128,Tryz.ntmps128;go_upto_region 1 with fail;rw[←HW1];clear HW1;go_wp2_with fail;refine HB.out.mono ?_;rintro e w2 ⟨he,hf2⟩;cases hk:x.bufOk ru with
 |false=>
  rw[hk] at he;obtain rfl:=he.f;clear he;have HC:=Zh hk;clear hk;have HF:=Zh (HF1.out.trans hf2);clear hf2;go_wp2_with fail;exact⟨rfl,vaR_f (by rw[Nm.turnOk,HC.out];rfl),HF.out⟩
 |true=>
  rw[hk] at he;obtain rfl:=he.t;clear he;have HC:=Zh hk;clear hk;obtain⟨W2,HW2⟩:∃W2,W2=w2.alloc (.cells #[.bool x.buf,.bool x.sec,.bool x.mt,.bool x.own,.bool x.set,.bool x.gone,.int .i64 x.lent,.int .i64 x.loops] 104):=⟨_,rfl⟩;have hf3:Fr Non w2 W2:=by rw[HW2];exact(Zf _).alloc _
  have hb2:W2.heap[w2.heap.size]? =some (.cells #[.bool x.buf,.bool x.sec,.bool x.mt,.bool x.own,.bool x.set,.bool x.gone,.int .i64 x.lent,.int .i64 x.loops] 104 (0,0)):=by rw[HW2];exact blk_new _ _ _
  have HF:=Zh ((HF1.out.trans hf2).trans hf3);have HR:=Zh (Zb (Zb HR1.out hf2 (non _)) hf3 (non _));have H2:=Zh (H.out.stay HF.out);have HB2:=Zh hb2;clear hb2 hf2 hf3;go_upto_region 2 with fail;rw[←HW2];clear HW2;have x2:=(Zc HB2.out).1 2 _ rfl;go_wp2_with fail;refine(ekind_any base b PV ru F W2 a bk x.mt H2.out).mono ?_;rintro e w3 ⟨he,rfl⟩;cases hk:chk ru 1 x.mt with
  |false=>
   rw[hk] at he;obtain rfl:=he.f;clear he;have HC3:=Zh hk;clear hk;go_wp2_with fail;exact⟨rfl,vaR_f (by rw[Nm.turnOk,HC.out,HC3.out];rfl),HF.out⟩
  |true=>
   rw[hk] at he;obtain rfl:=he.t;clear he;have HC3:=Zh hk;clear hk;clear x2;have x6:=(Zc HB2.out).1 6 _ rfl;go_wp2_with fail;refine(efree_any base b PV ru F W2 a bk (x.lent==0) H2.out).mono ?_;rintro e w4 ⟨he,rfl⟩;cases hk:chk ru 3 (x.lent==0) with
   |false=>
    rw[hk] at he;obtain rfl:=he.f;clear he;have HC4:=Zh hk;clear hk;go_wp2_with fail;exact⟨rfl,vaR_f (by rw[Nm.turnOk,HC.out,HC3.out,HC4.out];rfl),HF.out⟩
   |true=>
    rw[hk] at he;obtain rfl:=he.t;clear he;have HC4:=Zh hk;clear hk;clear x6;have x0:=(Zc HB2.out).1 0 _ rfl;have x1:=(Zc HB2.out).1 1 _ rfl;have x2:=(Zc HB2.out).1 2 _ rfl;have x3:=(Zc HB2.out).1 3 _ rfl;have x4:=(Zc HB2.out).1 4 _ rfl;have x5:=(Zc HB2.out).1 5 _ rfl;have x6:=(Zc HB2.out).1 6 _ rfl;have x7:=(Zc HB2.out).1 7 _ rfl;have f0:=(Zc HR.out).1 0 _ rfl;have f1:=(Zc HR.out).1 1 _ rfl;have f2:=(Zc HR.out).1 2 _ rfl;have f3:=(Zc HR.out).1 3 _ rfl;have f4:=(Zc HR.out).1 4 _ rfl;have f5:=(Zc HR.out).1 5 _ rfl;have f6:=(Zc HR.out).1 6 _ rfl;have f7:=(Zc HR.out).1 7 _ rfl;have ff:=(Zc HR.out).2;go_wp2_with fail;have HZ:=Zh (blk_put8 HR.out (.bool x.buf) (.bool x.sec) (.bool x.mt) (.bool x.own) (.bool x.set) (.bool x.gone) (.int .i64 x.lent) (.int .i64 x.loops));have HFZ:=Zh (fr_put8 (g:=w.heap.size) (w:=W2) (S:=fun q=>q=w.heap.size) rfl (.bool x.buf) (.bool x.sec) (.bool x.mt) (.bool x.own) (.bool x.set) (.bool x.gone) (.int .i64 x.lent) (.int .i64 x.loops));generalize ((((((((W2.setCell ⟨w.heap.size,0,none⟩ (.bool x.buf)).setCell ⟨w.heap.size,1,none⟩ (.bool x.sec)).setCell ⟨w.heap.size,2,none⟩ (.bool x.mt)).setCell ⟨w.heap.size,3,none⟩ (.bool x.own)).setCell ⟨w.heap.size,4,none⟩ (.bool x.set)).setCell ⟨w.heap.size,5,none⟩ (.bool x.gone)).setCell ⟨w.heap.size,6,none⟩ (.int .i64 x.lent)).setCell ⟨w.heap.size,7,none⟩ (.int .i64 x.loops))=wz at*;clear f0 f1 f2 f3 f4 f5 f6 f7 ff;have f0:=(Zc HZ.out).1 0 _ rfl;have f1:=(Zc HZ.out).1 1 _ rfl;have f2:=(Zc HZ.out).1 2 _ rfl;have f3:=(Zc HZ.out).1 3 _ rfl;have f4:=(Zc HZ.out).1 4 _ rfl;have f5:=(Zc HZ.out).1 5 _ rfl;have f6:=(Zc HZ.out).1 6 _ rfl;have f7:=(Zc HZ.out).1 7 _ rfl;refine bodyPost_ret (v:=x.v) (by simp[results,Tryz.results128,go_sem,f0,f1,f2,f3,f4,f5,f6,f7]) rfl ⟨vaR_t (by rw[Nm.turnOk,HC.out,HC3.out,HC4.out];rfl),HF.out.then HFZ.out (fun k hk e=>by have e:k=w.heap.size:=e;omega)⟩
theorem shape_kinds (e:Ex) (hs:shapeM e=true):e.kind.toNat=1∨e.kind.toNat=2∨e.kind.toNat=4∨(e.kind.toNat=5∧e.kids.length=1)∨(e.kind.toNat=3∧e.kids.length=2):=by
 unfold shapeM at hs;split at hs
 ·omega
 ·split at hs
  ·omega
  ·split at hs
   ·simp at hs;omega
   ·split at hs
    ·simp at hs;omega
    ·cases hs
theorem may_shape {k:UInt8} {n:UInt64} {nm:ByteArray} {o:UInt8} {l:List Ex} {d:Nat} (h:Ex.may (.mk k n nm o l) d=true):
  (k.toNat=1∨k.toNat=2∨k.toNat=4∨(k.toNat=5∧l.length=1)∨(k.toNat=3∧l.length=2))∧∀j (hj:j<l.length),Ex.may l[j] (d+1)=true:=by
 simp only[Ex.may,Bool.and_eq_true] at h;refine⟨?_,fun j hj=>?_⟩
 ·exact shape_kinds _ h.1.2
 ·have hm:=h.2;rw[mays_all,List.all_eq_true] at hm;exact hm _ (List.getElem_mem hj)
structure StillH (P:Program) (ops:Array Oper) (w:World) (Q:Act→Prop) (l:List Oper) (a:Act):Prop where
 out:wpStill P ops w Q l a
theorem stillH_skip {P:Program} {ops:Array Oper} {w:World} {Q:Act→Prop} {a:Act} {o:Oper} {rest:List Oper} (h0:Region.wanted o (yielded ops a.tmps)=false)
  (h:∀K:Act→Prop,(∀a,StillH P ops w Q rest a→K a)→K (a.put o.dst undef)):StillH P ops w Q (o::rest) a:=
 ⟨by rw[wpStill,if_neg (by rw[h0];exact Bool.false_ne_true)];exact(h _ fun _ h=>h).out⟩
theorem stillH_on {P:Program} {ops:Array Oper} {w:World} {Q:Act→Prop} {a:Act} {o:Oper} {rest:List Oper} (h0:Region.wanted o (yielded ops a.tmps)=true)
  (h:∀K:Act→Prop,(∀a,StillH P ops w Q rest a→K a)→o.still P a w K):StillH P ops w Q (o::rest) a:=
 ⟨by rw[wpStill,if_pos h0];exact h _ fun _ h=>h.out⟩
theorem stillH_nil {P:Program} {ops:Array Oper} {w:World} {Q:Act→Prop} {a:Act} (h:Q a):StillH P ops w Q [] a:=⟨h⟩
theorem gen_still {P:Program} {ops:Array Oper} {w:World} {Q:Act→Prop} {l:List Oper} {a:Act} (h:∀Q':Act→Prop,(∀a,Q a→Q' a)→StillH P ops w Q' l a):wpStill P ops w Q l a:=(h Q fun _ h=>h).out
theorem field_nsec (x:Nm) (w:World):Sem.run Tryz.prog (Instr.field 104 (.agg #[.bool x.buf,.bool x.sec,.bool x.mt,.bool x.own,.bool x.set,.bool x.gone,.int .i64 x.lent,.int .i64 x.loops]) 1) w= .ok (.bool x.sec) w:=by
 kernel_rfl
theorem field_ngone (x:Nm) (w:World):Sem.run Tryz.prog (Instr.field 104 (.agg #[.bool x.buf,.bool x.sec,.bool x.mt,.bool x.own,.bool x.set,.bool x.gone,.int .i64 x.lent,.int .i64 x.loops]) 5) w= .ok (.bool x.gone) w:=by
 kernel_rfl
theorem chk_tt (ru r:Int):chk ru r true=true:=by simp[chk]
theorem dead_here {A:Prop} (h:A) {w:World} (_:wpAny Tryz.prog .any #[] (fun _ _ _=>True) 0 #[] {tmps:=#[],defers:=[]} w):A:=h
theorem esec_any (N:Nat):∀(k:UInt8) (n:UInt64) (nm:ByteArray) (o:UInt8) (l:List Ex) (d:Nat) (ok:Nat→Prop) (A:Option Addr) (c base b:Nat) (PV:Value) (ru:Int) (F:Nat) (w:World) (a:Ev) (bk:Nat),
  Ex.size (.mk k n nm o l)≤N→Ex.may (.mk k n nm o l) d=true→RdRows ok w 5 A 0 (Ex.ds l)→EvAt base b PV ru F w a bk→
  Calls Tryz.prog 99 #[.pointer (some ⟨b,0,none⟩),exV k n nm o A l.length c] w fun e w'=>VaR a.n ru (Ex.so ru a.g (.mk k n nm o l)) (.bool (Ex.sv a.g (.mk k n nm o l))) e∧Fr Non w w':=by
 induction N with
 |zero=>intro k n nm o l d ok A c base b PV ru F w a bk hN;simp[Ex.size] at hN
 |succ N ih=>
 intro k n nm o l d ok A c base b PV ru F w a bk hN hmay hr h;have hk:=k.toNat_lt;have IH:=Zh ih;clear ih;have HNN:=Zh hN;clear hN;obtain⟨W0,HW0⟩:∃W0,W0=w.alloc (.cells #[vu8 k,vu64 n,.string nm,vu8 o,.slice A l.length c] 48):=⟨_,rfl⟩;have hf0:Fr Non w W0:=by rw[HW0];exact(Zf w).alloc _
 have hbx:W0.heap[w.heap.size]? =some (.cells #[vu8 k,vu64 n,.string nm,vu8 o,.slice A l.length c] 48 (0,0)):=by rw[HW0];exact blk_new _ _ _
 have H0:=Zh (h.stay hf0);clear h;have HR:=Zh (hr.fr hf0 (fun _ _=>non _) (fun _ h=>h));clear hr;have HF0:=Zh hf0;clear hf0;have z0:=(Zc hbx).1 0 _ rfl;have HBX:=Zh hbx;clear hbx;obtain⟨hs,hkids⟩:=may_shape hmay;clear hmay;have HK:=Zh hkids;clear hkids;rcases hs with h1|h1|h1|⟨h1,h2⟩|⟨h1,h2⟩
 ·have HE:=Zh (show Ex.so ru a.g (.mk k n nm o l)=true by rw[Ex.so,if_neg (by omega),if_neg (by omega),if_neg (by omega),if_neg (by omega)]);have HV:=Zh (show Ex.sv a.g (.mk k n nm o l)=false by rw[Ex.sv,if_neg (by omega),if_neg (by omega)]);go_enter Tryz.func99,Tryz.ntmps99;go_upto_region 1 with fail;rw[←HW0];clear HW0;go_wp2_with fail;go_ret;rw[HV.out];exact⟨vaR_t HE.out,HF0.out⟩
 ·have HE:=Zh (show Ex.so ru a.g (.mk k n nm o l)=(a.g nm).numOk ru by rw[Ex.so,if_pos h1]);have HV:=Zh (show Ex.sv a.g (.mk k n nm o l)=(a.g nm).sec by rw[Ex.sv,if_pos (.inl h1)]);have z2:=(Zc HBX.out).1 2 _ rfl;have HC:=Zh (enum_any base b PV ru F W0 a bk nm H0.out);go_enter Tryz.func99,Tryz.ntmps99;go_upto_region 1 with fail;rw[←HW0];clear HW0;go_wp2_with fail;refine HC.out.mono ?_;rintro e w1 ⟨he,hf1⟩;have HF1:=Zh (HF0.out.trans hf1);clear hf1;generalize hx:a.g nm=x at*;clear hx;cases hq:x.numOk ru with
  |false=>
   rw[hq] at he;obtain rfl:=he.f;clear he;have HQ:=Zh hq;clear hq;go_wp2_with fail;exact⟨rfl,vaR_f (by rw[HE.out,HQ.out]),HF1.out⟩
  |true=>
   rw[hq] at he;obtain rfl:=he.t;clear he;have HQ:=Zh hq;clear hq;have hfd:=field_nsec x;go_wp2_with fail;go_ret;rw[HV.out];exact⟨vaR_t (by rw[HE.out,HQ.out]),HF1.out⟩
 ·have HE:=Zh (show Ex.so ru a.g (.mk k n nm o l)=(a.g nm).bufOk ru by rw[Ex.so,if_neg (by omega),if_pos h1]);have HV:=Zh (show Ex.sv a.g (.mk k n nm o l)=false by rw[Ex.sv,if_neg (by omega),if_neg (by omega)]);have z2:=(Zc HBX.out).1 2 _ rfl;have HC:=Zh (ebuf_any base b PV ru F W0 a bk nm H0.out);go_enter Tryz.func99,Tryz.ntmps99;go_upto_region 1 with fail;rw[←HW0];clear HW0;go_wp2_with fail;refine HC.out.mono ?_;rintro e w1 ⟨he,hf1⟩;have HF1:=Zh (HF0.out.trans hf1);clear hf1;generalize hx:a.g nm=x at*;clear hx;cases hq:x.bufOk ru with
  |false=>
   rw[hq] at he;obtain rfl:=he.f;clear he;have HQ:=Zh hq;clear hq;go_wp2_with fail;exact⟨rfl,vaR_f (by rw[HE.out,HQ.out]),HF1.out⟩
  |true=>
   rw[hq] at he;obtain rfl:=he.t;clear he;have HQ:=Zh hq;clear hq;go_wp2_with fail;go_ret;rw[HV.out];exact⟨vaR_t (by rw[HE.out,HQ.out]),HF1.out⟩
 ·obtain⟨e1,rfl⟩:∃e1,l=[e1]:=by
   cases l with
   |nil=>simp at h2
   |cons e1 l=>cases l with
    |nil=>exact⟨e1,rfl⟩
    |cons _ _=>simp at h2
  clear h2;have HE:=Zh (show Ex.so ru a.g (.mk k n nm o [e1])=((a.g nm).bufOk ru&&(Ex.so ru a.g e1&&chk ru 2 (!Ex.sv a.g e1))) by rw[Ex.so,if_neg (by omega),if_neg (by omega),if_pos h1,Ex.sos,Ex.sos,Bool.and_true];rfl);have HV:=Zh (show Ex.sv a.g (.mk k n nm o [e1])=(a.g nm).sec by rw[Ex.sv,if_pos (.inr h1)]);have z2:=(Zc HBX.out).1 2 _ rfl;have HC:=Zh (ebuf_any base b PV ru F W0 a bk nm H0.out);go_enter Tryz.func99,Tryz.ntmps99;go_upto_region 1 with fail;rw[show(w.alloc (.cells #[vu8 k,vu64 n,.string nm,vu8 o,.slice A 1 c] 48))=W0 from HW0.symm];clear HW0;go_wp2_with fail;refine HC.out.mono ?_;rintro e w1 ⟨he,hf1⟩;have HG1:=Zh hf1;have HF1:=Zh (HF0.out.trans hf1);clear hf1;generalize hx:a.g nm=x at*;clear hx;cases hq:x.bufOk ru with
  |false=>
   rw[hq] at he;obtain rfl:=he.f;clear he;have HQ:=Zh hq;clear hq;go_wp2_with fail;exact⟨rfl,vaR_f (by rw[HE.out,HQ.out];rfl),HF1.out⟩
  |true=>
   rw[hq] at he;obtain rfl:=he.t;clear he;have HQ:=Zh hq;clear hq;obtain⟨W2,HW2⟩:∃W2,W2=w1.alloc (.cells #[.bool x.buf,.bool x.sec,.bool x.mt,.bool x.own,.bool x.set,.bool x.gone,.int .i64 x.lent,.int .i64 x.loops] 104):=⟨_,rfl⟩;have hf2:Fr Non w1 W2:=by rw[HW2];exact(Zf _).alloc _
   have HX2:=Zh (show W2.heap[w1.heap.size]? =some (.cells #[.bool x.buf,.bool x.sec,.bool x.mt,.bool x.own,.bool x.set,.bool x.gone,.int .i64 x.lent,.int .i64 x.loops] 104 (0,0)) by rw[HW2];exact blk_new _ _ _);have HG2:=Zh (HG1.out.trans hf2);have HF2:=Zh (HF1.out.trans hf2);clear hf2;have H2:=Zh (H0.out.stay HG2.out);obtain⟨b1,o1,A1,c1,rfl,hb1,e0,e1',e2,e3,e4,p1,p2,p3⟩:=at_ex (HR.out.fr HG2.out (fun _ _=>non _) (fun _ h=>h)) 0 (by simp);simp only[List.getElem_cons_zero,Nat.zero_mul,Nat.add_zero] at e0 e1' e2 e3 e4 p1 p2 p3;have hr1:Calls Tryz.prog 99 #[.pointer (some ⟨b,0,none⟩),exV e1.kind e1.num e1.name e1.op A1 e1.kids.length c1] W2 fun e w'=>VaR a.n ru (Ex.so ru a.g e1) (.bool (Ex.sv a.g e1)) e∧Fr Non W2 w':=by
    have:=IH.out e1.kind e1.num e1.name e1.op e1.kids (d+1) ok A1 c1 base b PV ru F W2 a bk (by have:=HNN.out;rw[ex_eta];simp[Ex.size,Ex.sizes] at this;omega) (by rw[ex_eta];exact HK.out 0 (by simp)) p3 H2.out;rw[ex_eta] at this;exact this
   have HR1:=Zh hr1;clear hr1 p3 z0 z2;have z4:=(Zc (Zb HBX.out HG2.out (non _))).1 4 _ rfl;go_upto_region 8 with fail;rw[←HW2];clear HW2;go_wp2_with fail;refine HR1.out.mono ?_;rintro e w3 ⟨he,hf3⟩;have HF3:=Zh (HF2.out.trans hf3);have HX3:=Zh (Zb HX2.out hf3 (non _));have H3:=Zh (H2.out.stay hf3);clear hf3;cases hs1:Ex.so ru a.g e1 with
   |false=>
    rw[hs1] at he;obtain rfl:=he.f;clear he;have HS1:=Zh hs1;clear hs1;go_wp2_with fail;exact⟨rfl,vaR_f (by rw[HE.out,HQ.out,HS1.out];rfl),HF3.out⟩
   |true=>
    rw[hs1] at he;obtain rfl:=he.t;clear he;have HS1:=Zh hs1;clear hs1;clear e0 e1' e2 e3 e4 z4;generalize hv1:Ex.sv a.g e1=v1 at*;have HV1:=Zh hv1;clear hv1;go_wp2_with fail;refine(eclear_any base b PV ru F w3 a bk (!v1) H3.out).mono ?_;rintro e w4 ⟨he,rfl⟩;cases hc:chk ru 2 (!v1) with
    |false=>
     rw[hc] at he;obtain rfl:=he.f;clear he;have HCC:=Zh hc;clear hc;go_wp2_with fail;exact⟨rfl,vaR_f (by rw[HE.out,HQ.out,HS1.out,HCC.out];rfl),HF3.out⟩
    |true=>
     rw[hc] at he;obtain rfl:=he.t;clear he;have HCC:=Zh hc;clear hc;have y1:=(Zc HX3.out).1 1 _ rfl;go_wp2_with fail;go_ret;rw[HV.out];exact⟨vaR_t (by rw[HE.out,HQ.out,HS1.out,HCC.out];rfl),HF3.out⟩
 ·obtain⟨e1,e2,rfl⟩:∃e1 e2,l=[e1,e2]:=by
   match l,h2 with
   |[e1,e2],_=>exact⟨e1,e2,rfl⟩
  clear h2;obtain⟨q13,h13⟩:∃q,((o.toNat:Int)==13)=q:=⟨_,rfl⟩;obtain⟨q14,h14⟩:∃q,((o.toNat:Int)==14)=q:=⟨_,rfl⟩;have k13:(o.toNat==13)=q13:=by rw[←h13,Bool.eq_iff_iff];simp;omega
  have k14:(o.toNat==14)=q14:=by rw[←h14,Bool.eq_iff_iff];simp;omega
  have n13:((o.toNat:Int)!=13)= !q13:=by rw[bne,h13]
  have n14:((o.toNat:Int)!=14)= !q14:=by rw[bne,h14]
  obtain⟨v1,hv1⟩:∃v,Ex.sv a.g e1=v:=⟨_,rfl⟩;obtain⟨v2,hv2⟩:∃v,Ex.sv a.g e2=v:=⟨_,rfl⟩;have HE:=Zh (show Ex.so ru a.g (.mk k n nm o [e1,e2])=((Ex.so ru a.g e1&&(Ex.so ru a.g e2&&true))&&chk ru 2 (!(v1||v2)|| !(q13||q14))) by rw[Ex.so,if_neg (by omega),if_neg (by omega),if_neg (by omega),if_pos h1,Ex.sos,Ex.sos,Ex.sos,k13,k14,←hv1,←hv2];rfl);have HV:=Zh (show Ex.sv a.g (.mk k n nm o [e1,e2])=(v1||v2) by rw[Ex.sv,if_neg (by omega),if_pos h1,←hv1,←hv2];rfl);clear h13 h14 k13 k14;obtain⟨b1,o1,A1,c1,hA,hb1,x0,x1,x2,x3,x4,p1,p2,p3⟩:=at_ex HR.out 0 (by simp);obtain⟨b1',o1',A2,c2,hA',_,y0,y1,y2,y3,y4,q1,q2,q3⟩:=at_ex HR.out 1 (by simp);obtain⟨rfl,rfl⟩:b1=b1'∧o1=o1':=by rw[hA] at hA';cases hA';exact⟨rfl,rfl⟩
  subst hA;clear hA';simp only[List.getElem_cons_zero,List.getElem_cons_succ,Nat.zero_mul,Nat.one_mul,Nat.add_zero] at x0 x1 x2 x3 x4 p1 p2 p3 y0 y1 y2 y3 y4 q1 q2 q3;have hr1:∀w1,Fr Non W0 w1→Calls Tryz.prog 99 #[.pointer (some ⟨b,0,none⟩),exV e1.kind e1.num e1.name e1.op A1 e1.kids.length c1] w1 fun e w'=>VaR a.n ru (Ex.so ru a.g e1) (.bool v1) e∧Fr Non w1 w':=fun w1 hf1=>by
   have:=IH.out e1.kind e1.num e1.name e1.op e1.kids (d+1) ok A1 c1 base b PV ru F w1 a bk (by have:=HNN.out;rw[ex_eta];simp[Ex.size,Ex.sizes] at this;omega) (by rw[ex_eta];exact HK.out 0 (by simp)) (p3.fr hf1 (fun _ _=>non _) (fun _ h=>h)) (H0.out.stay hf1);rw[ex_eta,hv1] at this;exact this
  have hr2:∀w1,Fr Non W0 w1→Calls Tryz.prog 99 #[.pointer (some ⟨b,0,none⟩),exV e2.kind e2.num e2.name e2.op A2 e2.kids.length c2] w1 fun e w'=>VaR a.n ru (Ex.so ru a.g e2) (.bool v2) e∧Fr Non w1 w':=fun w1 hf1=>by
   have:=IH.out e2.kind e2.num e2.name e2.op e2.kids (d+1) ok A2 c2 base b PV ru F w1 a bk (by have:=HNN.out;rw[ex_eta];simp[Ex.size,Ex.sizes] at this;omega) (by rw[ex_eta];exact HK.out 1 (by simp)) (q3.fr hf1 (fun _ _=>non _) (fun _ h=>h)) (H0.out.stay hf1);rw[ex_eta,hv2] at this;exact this
  have HR1:=Zh hr1;have HR2:=Zh hr2;clear hr1 hr2 p3 q3 hv1 hv2;have z4:W0.cell? ⟨w.heap.size,4,none⟩=some (.slice (some ⟨b1,o1,none⟩) 2 c):=(Zc HBX.out).1 4 _ rfl;have hS:∀w',Fr Non W0 w'→w'.cell? ⟨w.heap.size,4,none⟩=some (.slice (some ⟨b1,o1,none⟩) 2 c)∧w'.cell? ⟨b1,o1,none⟩=some (vu8 e1.kind)∧w'.cell? ⟨b1,o1+1,none⟩=some (vu64 e1.num)∧w'.cell? ⟨b1,o1+2,none⟩=some (.string e1.name)∧w'.cell? ⟨b1,o1+3,none⟩=some (vu8 e1.op)∧w'.cell? ⟨b1,o1+4,none⟩=some (.slice A1 e1.kids.length c1)∧
    w'.cell? ⟨b1,o1+5,none⟩=some (vu8 e2.kind)∧w'.cell? ⟨b1,o1+5+1,none⟩=some (vu64 e2.num)∧w'.cell? ⟨b1,o1+5+2,none⟩=some (.string e2.name)∧w'.cell? ⟨b1,o1+5+3,none⟩=some (vu8 e2.op)∧w'.cell? ⟨b1,o1+5+4,none⟩=some (.slice A2 e2.kids.length c2):=fun w' hf=>
   ⟨hf.cell' z4 (non _),hf.cell' x0 (non _),hf.cell' x1 (non _),hf.cell' x2 (non _),hf.cell' x3 (non _),hf.cell' x4 (non _),hf.cell' y0 (non _),hf.cell' y1 (non _),hf.cell' y2 (non _),hf.cell' y3 (non _),hf.cell' y4 (non _)⟩
  have HSS:=Zh hS;clear hS;go_enter Tryz.func99,Tryz.ntmps99;go_upto_region 1 with fail;rw[show(w.alloc (.cells #[vu8 k,vu64 n,.string nm,vu8 o,.slice (some ⟨b1,o1,none⟩) 2 c] 48))=W0 from HW0.symm];clear HW0;go_upto_region 11 with fail;clear z0;cases hs1:Ex.so ru a.g e1 with
  |false=>
   have HD:=Zh (vaR_f (n:=a.n) (ru:=ru) (v:=.bool (Ex.sv a.g (.mk k n nm o [e1,e2]))) (show Ex.so ru a.g (.mk k n nm o [e1,e2])=false by rw[HE.out,hs1];rfl));rw[hs1] at HR1;clear hs1;cases hs2:Ex.so ru a.g e2 with
   |false=>
    rw[hs2] at HR2;clear hs2
    go_region_with (first|(go_at_call_of 99 A1;refine(HR1.out W0.drew (Zf W0).drew).mono ?_;rintro e w3 ⟨he,hf3⟩;obtain rfl:=he.f;go_wp2_with fail;refine dead_here (w:=W0) ?_ ?_;exact⟨rfl,HD.out,HF0.out.trans ((Zf W0).drew.trans hf3)⟩)|(go_at_call_of 99 A2;refine(HR2.out W0.drew (Zf W0).drew).mono ?_;rintro e w3 ⟨he,hf3⟩;obtain rfl:=he.f;go_wp2_with fail;refine dead_here (w:=W0) ?_ ?_;exact⟨rfl,HD.out,HF0.out.trans ((Zf W0).drew.trans hf3)⟩))
    all_goals trivial
   |true=>
    rw[hs2] at HR2;clear hs2
    go_region_with (first|(go_at_call_of 99 A1;refine(HR1.out w4 ((Zf W0).drew.trans hf4)).mono ?_;rintro e w3 ⟨he,hf3⟩;obtain rfl:=he.f;go_wp2_with fail;refine dead_here (w:=W0) ?_ ?_;exact⟨rfl,HD.out,HF0.out.trans ((Zf W0).drew.trans (hf4.trans hf3))⟩)|(go_at_call_of 99 A1;refine(HR1.out W0.drew (Zf W0).drew).mono ?_;rintro e w3 ⟨he,hf3⟩;obtain rfl:=he.f;go_wp2_with fail;refine dead_here (w:=W0) ?_ ?_;exact⟨rfl,HD.out,HF0.out.trans ((Zf W0).drew.trans hf3)⟩)|(go_at_call_of 99 A2;refine(HR2.out W0.drew (Zf W0).drew).mono ?_;rintro e w4 ⟨he,hf4⟩;obtain rfl:=he.t;obtain⟨u4,f0,f1,f2,f3,f4,g0,g1,g2,g3,g4⟩:=HSS.out w4 ((Zf W0).drew.trans hf4)))
    all_goals trivial
  |true=>
   cases hs2:Ex.so ru a.g e2 with
   |false=>
    have HD:=Zh (vaR_f (n:=a.n) (ru:=ru) (v:=.bool (Ex.sv a.g (.mk k n nm o [e1,e2]))) (show Ex.so ru a.g (.mk k n nm o [e1,e2])=false by rw[HE.out,hs1,hs2];rfl));rw[hs1] at HR1;rw[hs2] at HR2;clear hs1 hs2
    go_region_with (first|(go_at_call_of 99 A2;refine(HR2.out w4 ((Zf W0).drew.trans hf4)).mono ?_;rintro e w3 ⟨he,hf3⟩;obtain rfl:=he.f;go_wp2_with fail;refine dead_here (w:=W0) ?_ ?_;exact⟨rfl,HD.out,HF0.out.trans ((Zf W0).drew.trans (hf4.trans hf3))⟩)|(go_at_call_of 99 A2;refine(HR2.out W0.drew (Zf W0).drew).mono ?_;rintro e w3 ⟨he,hf3⟩;obtain rfl:=he.f;go_wp2_with fail;refine dead_here (w:=W0) ?_ ?_;exact⟨rfl,HD.out,HF0.out.trans ((Zf W0).drew.trans hf3)⟩)|(go_at_call_of 99 A1;refine(HR1.out W0.drew (Zf W0).drew).mono ?_;rintro e w4 ⟨he,hf4⟩;obtain rfl:=he.t;obtain⟨u4,f0,f1,f2,f3,f4,g0,g1,g2,g3,g4⟩:=HSS.out w4 ((Zf W0).drew.trans hf4)))
    all_goals trivial
   |true=>
    rw[hs1] at HR1 HE;rw[hs2] at HR2 HE;clear hs1 hs2;have u4:=ext_cell z4;have f0:=ext_cell x0;have f1:=ext_cell x1;have f2:=ext_cell x2;have f3:=ext_cell x3;have f4:=ext_cell x4;have g0:=ext_cell y0;have g1:=ext_cell y1;have g2:=ext_cell y2;have g3:=ext_cell y3;have g4:=ext_cell y4;have hlb:b1<W0.heap.size:=World.block_lt_of_cell? _ _ x0;clear z4 x0 x1 x2 x3 x4 y0 y1 y2 y3 y4;refine wp_region_ext (by kernel_rfl) (by kernel_rfl) ?_
    repeat (go_big_quiet_step (fail))
    go_big_quiet_want;go_big_quiet_op;apply Exists.intro;refine⟨fun y=>?_,?_⟩
    ·exact calls_ext (v:=.bool v1) ((HR1.out _ (ext_fr _ _)).mono fun e w' h=>⟨h.1.t,h.2⟩)
    go_big_quiet_on
    repeat (go_big_quiet_step (fail))
    go_big_quiet_want;go_big_quiet_op;apply Exists.intro;refine⟨fun y=>?_,?_⟩
    ·exact calls_ext (v:=.bool v2) ((HR2.out _ (ext_fr _ _)).mono fun e w' h=>⟨h.1.t,h.2⟩)
    go_big_quiet_on
    repeat (go_big_quiet_step (fail))
    refine wpQuiet_nil ?_;intro w3 hf3;clear u4 f0 f1 f2 f3 f4 g0 g1 g2 g3 g4 hlb;have HF3:=Zh (HF0.out.trans hf3);have H3:=Zh (H0.out.stay hf3);have z3:=(Zc (Zb HBX.out hf3 (non _))).1 3 _ rfl;clear hf3;cases v1<;>cases v2<;>cases q13<;>cases q14;all_goals
     go_wp2_with fail;refine(eclear_any base b PV ru F w3 a bk _ H3.out).mono ?_;rintro e w4 ⟨he,rfl⟩
     first
      |(obtain⟨c2,hc2⟩:∃c,chk ru 2 true=c:=⟨_,rfl⟩
        rw[hc2] at he;have hc3:c2=true:=by rw[←hc2];exact chk_tt ru 2
        subst hc3;obtain rfl:=he.t;clear he hc2;go_wp2_with fail;go_ret;rw[HV.out];exact⟨vaR_t (by rw[HE.out];exact chk_tt ru 2),HF3.out⟩)
      |(obtain⟨c2,hc2⟩:∃c,chk ru 2 false=c:=⟨_,rfl⟩
        rw[hc2] at he;have HC2:=Zh hc2;clear hc2;cases c2
        ·obtain rfl:=he.f;clear he;go_wp2_with fail;exact⟨rfl,vaR_f (by rw[HE.out];exact HC2.out),HF3.out⟩
        ·obtain rfl:=he.t;clear he;go_wp2_with fail;go_ret;rw[HV.out];exact⟨vaR_t (by rw[HE.out];exact HC2.out),HF3.out⟩)
theorem einto_any (e:Ex) (sec:Bool) (ok:Nat→Prop) (A:Option Addr) (c base b:Nat) (PV:Value) (ru:Int) (F:Nat) (w:World) (a:Ev) (bk:Nat) (hm:exM e=true) (hr:RdRows ok w 5 A 0 (Ex.ds e.kids)) (h:EvAt base b PV ru F w a bk):
  Calls Tryz.prog 66 #[.pointer (some ⟨b,0,none⟩),exV e.kind e.num e.name e.op A e.kids.length c,.bool sec] w fun r w'=>UnR a.n ru (a.into ru e sec) r∧Fr Non w w':=by
 obtain⟨W0,HW0⟩:∃W0,W0=w.alloc (.cells #[vu8 e.kind,vu64 e.num,.string e.name,vu8 e.op,.slice A e.kids.length c] 48):=⟨_,rfl⟩;have hf0:Fr Non w W0:=by rw[HW0];exact(Zf w).alloc _
 have hbx:W0.heap[w.heap.size]? =some (.cells #[vu8 e.kind,vu64 e.num,.string e.name,vu8 e.op,.slice A e.kids.length c] 48 (0,0)):=by rw[HW0];exact blk_new _ _ _
 have H0:=Zh (h.stay hf0);clear h;have hs:=esec_any (Ex.size e) e.kind e.num e.name e.op e.kids 1 ok A c base b PV ru F W0 a bk (by rw[ex_eta];exact Nat.le_refl _) (by rw[ex_eta];exact hm) (hr.fr hf0 (fun _ _=>non _) (fun _ h=>h)) H0.out;rw[ex_eta] at hs;have HS:=Zh hs;clear hs hr hm;have HF0:=Zh hf0;clear hf0;have x0:=(Zc hbx).1 0 _ rfl;have x1:=(Zc hbx).1 1 _ rfl;have x2:=(Zc hbx).1 2 _ rfl;have x3:=(Zc hbx).1 3 _ rfl;have x4:=(Zc hbx).1 4 _ rfl;clear hbx;have HE:=Zh (show a.into ru e sec=(Ex.so ru a.g e&&chk ru 2 (sec|| !Ex.sv a.g e)) from rfl);go_enter Tryz.func66,Tryz.ntmps66;go_upto_region 1 with fail;rw[←HW0];clear HW0;go_wp2_with fail;refine HS.out.mono ?_;rintro r w1 ⟨he,hf1⟩;have HF1:=Zh (HF0.out.trans hf1);have H1:=Zh (H0.out.stay hf1);clear hf1 x0 x1 x2 x3 x4;obtain⟨s1,hs1⟩:∃x,Ex.so ru a.g e=x:=⟨_,rfl⟩;obtain⟨v1,hv1⟩:∃x,Ex.sv a.g e=x:=⟨_,rfl⟩;rw[hs1,hv1] at he HE;clear hs1 hv1;cases s1 with
 |false=>
  obtain rfl:=he.f;clear he;go_wp2_with fail;exact⟨rfl,unR_f (by rw[HE.out];rfl),HF1.out⟩
 |true=>
  obtain rfl:=he.t;clear he;cases sec<;>cases v1;all_goals
   go_wp2_with fail;refine(eclear_any base b PV ru F w1 a bk _ H1.out).mono ?_;rintro r w2 ⟨he,rfl⟩;generalize hc:chk ru 2 _=cc at he;have HC:=Zh hc;clear hc;cases cc
   ·obtain rfl:=he.f;clear he;go_wp2_with fail;exact⟨rfl,unR_f (by rw[HE.out];exact HC.out),HF1.out⟩
   ·obtain rfl:=he.t;clear he;go_wp2_with fail
    go_end0
    exact⟨unR_t (by rw[HE.out];exact HC.out),HF1.out⟩
theorem esecx_any (e:Ex) (ok:Nat→Prop) (A:Option Addr) (c base b:Nat) (PV:Value) (ru:Int) (F:Nat) (w:World) (a:Ev) (bk:Nat) (hm:exM e=true) (hr:RdRows ok w 5 A 0 (Ex.ds e.kids)) (h:EvAt base b PV ru F w a bk):
  Calls Tryz.prog 99 #[.pointer (some ⟨b,0,none⟩),exV e.kind e.num e.name e.op A e.kids.length c] w fun r w'=>VaR a.n ru (Ex.so ru a.g e) (.bool (Ex.sv a.g e)) r∧Fr Non w w':=by
 have hs:=esec_any (Ex.size e) e.kind e.num e.name e.op e.kids 1 ok A c base b PV ru F w a bk (by rw[ex_eta];exact Nat.le_refl _) (by rw[ex_eta];exact hm) hr h;rw[ex_eta] at hs;exact hs
section
section
variable (ru:Int) (P:List Fu) (F:Nat) (s:St) (a:Ev)
theorem evs_1 (h:s.kind.toNat=1):evStmt ru P F s a=a.if (a.into ru (exAt s.ex 0) s.sec) (.ok (a.give s.name (Nm.num s.sec true))):=by
 cases s with|mk=>exact ev_1 _ _ _ _ _ _ _ _ _ _ _ _ _ h
theorem evs_2 (h:s.kind.toNat=2):evStmt ru P F s a=a.if (a.setOk ru s.name (exAt s.ex 0)) (.ok a):=by
 cases s with|mk=>exact ev_2 _ _ _ _ _ _ _ _ _ _ _ _ _ h
theorem evs_3 (h:s.kind.toNat=3):evStmt ru P F s a=a.if (a.into ru (exAt s.ex 0) false) (.ok (a.give s.name (Nm.bufv s.sec true true))):=by
 cases s with|mk=>exact ev_3 _ _ _ _ _ _ _ _ _ _ _ _ _ h
theorem evs_4 (h:s.kind.toNat=4):evStmt ru P F s a=a.if (a.putOk ru s.name (exAt s.ex 0) (exAt s.ex 1)) (.ok a):=by
 cases s with|mk=>exact ev_4 _ _ _ _ _ _ _ _ _ _ _ _ _ h
theorem evs_5 (h:s.kind.toNat=5):evStmt ru P F s a=a.if (a.into ru (exAt s.ex 0) false) (match evBlock ru P F s.body a with
  | .error x=>.error x
  | .ok a1=>match evBlock ru P F s.els (a1.with a.nm) with
    | .error x=>.error x
    | .ok a2=>.ok (a2.with (ngone a2.nm a1.nm))):=by
 cases s with|mk=>exact ev_5 _ _ _ _ _ _ _ _ _ _ _ _ _ h
theorem evs_67 (h:s.kind.toNat=6∨s.kind.toNat=7):evStmt ru P F s a=a.if (a.into ru (exAt s.ex 0) false) (match evBlock ru P F s.body (a.loopIn s.name) with
  | .error x=>.error x
  | .ok a1=>.ok ((a1.at (a1.loops-1)).del s.name)):=by
 cases s with|mk=>exact ev_67 _ _ _ _ _ _ _ _ _ _ _ _ _ h
theorem evs_8 (h:s.kind.toNat=8):evStmt ru P F s a=a.if (a.lendOk ru s.frm s.mt s.ex) (match evBlock ru P F s.body (a.lendIn s.name s.frm s.mt) with
  | .error x=>.error x
  | .ok a1=>.ok (a1.lendOut s.name s.frm (a.g s.frm).lent)):=by
 cases s with|mk=>exact ev_8 _ _ _ _ _ _ _ _ _ _ _ _ _ h
theorem evs_9 (h:s.kind.toNat=9):evStmt ru P F s a=a.if (a.moveOk ru s.frm) (.ok ((a.put s.frm {a.g s.frm with gone:=true}).give s.name (Nm.bufv (a.g s.frm).sec true true))):=by
 cases s with|mk=>exact ev_9 _ _ _ _ _ _ _ _ _ _ _ _ _ h
theorem evs_10 (h:s.kind.toNat=10):evStmt ru P F s a=a.if (Ex.so ru a.g (exAt s.ex 0)) (.ok (a.give s.name Nm.zero)):=by
 cases s with|mk=>exact ev_10 _ _ _ _ _ _ _ _ _ _ _ _ _ h
theorem evs_11 (h:s.kind.toNat=11):evStmt ru P F s a=a.if (a.callOk ru (calleeM P F s.frm) s.name s.ex s.args) (.ok (if emp s.name then a else a.give s.name (Nm.num (calleeM P F s.frm).sec false))):=by
 cases s with|mk=>exact ev_11 _ _ _ _ _ _ _ _ _ _ _ _ _ h
theorem evs_12 (h:11<s.kind.toNat):evStmt ru P F s a=a.if (a.sealOk ru P F) (.ok a):=by
 cases s with|mk=>exact ev_12 _ _ _ _ _ _ _ _ _ _ _ _ _ h
end
def StE (base b:Nat) (PV:Value) (ru:Int) (F:Nat) (w:World) (bk:Nat) (r:Er Ev) (e:Ending) (w':World):Prop:=match r with
 | .error n=>e= .panicked [{v:=faultV n (codeOf ru),recovered:=false}]∧Fr (ES b bk) w w'
 | .ok a1=>∃bk1,e= .returned (.tuple #[])∧Fr (ES b bk) w w'∧EvAt base b PV ru F w' a1 bk1∧(bk1=bk∨w.heap.size≤bk1)
theorem stE_no {base b:Nat} {PV:Value} {ru:Int} {F:Nat} {w w':World} {bk:Nat} {a:Ev} {ok:Bool} {r:Er Ev} {R:Er Ev} (hR:R=a.if ok r) (h:ok=false) (hf:Fr Non w w'):StE base b PV ru F w bk R (.panicked [{v:=faultV a.n (codeOf ru),recovered:=false}]) w':=by
 subst hR h;exact⟨rfl,hf.non⟩
theorem stE_yes {base b:Nat} {PV:Value} {ru:Int} {F:Nat} {w w':World} {bk bk1:Nat} {a a1:Ev} {ok:Bool} {R:Er Ev} (hR:R=a.if ok (.ok a1)) (h:ok=true) (hf:Fr (ES b bk) w w') (he:EvAt base b PV ru F w' a1 bk1) (hb:bk1=bk∨w.heap.size≤bk1):StE base b PV ru F w bk R (.returned (.tuple #[])) w':=by
 subst hR h;exact⟨bk1,rfl,hf,he,hb⟩
theorem ex_cells {ok:Nat→Prop} {w:World} {A:Option Addr} {ex:List Ex} (hr:RdRows ok w 5 A 0 (Ex.ds ex)) (i:Nat) (hi:i<ex.length):
  ∃xb xo xA xc,A=some ⟨xb,xo,none⟩∧w.cell? ⟨xb,xo+i*5,none⟩=some (vu8 (exAt ex i).kind)∧w.cell? ⟨xb,xo+i*5+1,none⟩=some (vu64 (exAt ex i).num)∧w.cell? ⟨xb,xo+i*5+2,none⟩=some (.string (exAt ex i).name)∧
   w.cell? ⟨xb,xo+i*5+3,none⟩=some (vu8 (exAt ex i).op)∧w.cell? ⟨xb,xo+i*5+4,none⟩=some (.slice xA (exAt ex i).kids.length xc)∧RdRows ok w 5 xA 0 (Ex.ds (exAt ex i).kids):=by
 obtain⟨b,o,A',c,e,hb,h0,h1,h2,h3,h4,_,_,hk⟩:=at_ex hr i hi;have he:exAt ex i=ex[i]:=by rw[exAt,List.getD_eq_getElem?_getD,List.getElem?_eq_getElem hi,Option.getD_some]
 rw[he];exact⟨b,o,A',c,e,h0,h1,h2,h3,h4,hk⟩
theorem exs_all {ex:List Ex} {i:Nat} (h:ex.all exM=true) (hi:i<ex.length):exM (exAt ex i)=true:=by
 rw[List.all_eq_true] at h;rw[exAt,List.getD_eq_getElem?_getD,List.getElem?_eq_getElem hi,Option.getD_some];exact h _ (List.getElem_mem hi)
theorem EvAt.upd {base b:Nat} {PV:Value} {ru:Int} {F:Nat} {w:World} {a:Ev} {bk:Nat} (h:EvAt base b PV ru F w a bk) (nm:ByteArray) (x:Nm):
  ∃w',(Instr.mapUpdate 99 (.map (some bk)) (.string nm) x.v).run Tryz.prog w= .ok () w'∧EvAt base b PV ru F w' (a.put nm x) bk∧Fr (ES b bk) w w':=by
 obtain⟨w',hr,hm,hf⟩:=h.nm.put undNm undStr nm x.v;rw[mput_nvs] at hm;exact⟨w',hr,⟨Zb h.blk hf (fun e=>h.ne e.symm),hm,h.hb,h.hk⟩,hf.mono fun _ _ h=>.inr h⟩
theorem EvAt.rm {base b:Nat} {PV:Value} {ru:Int} {F:Nat} {w:World} {a:Ev} {bk:Nat} (h:EvAt base b PV ru F w a bk) (nm:ByteArray) (ty:TypeId):
  ∃w',(Builtin.delete_ #[99,9] ty #[.map (some bk),.string nm]).run Tryz.prog w= .ok (.tuple #[]) w'∧EvAt base b PV ru F w' (a.del nm) bk∧Fr (ES b bk) w w':=by
 obtain⟨w',hr,hm,hf⟩:=h.nm.del undNm undStr nm ty 9;rw[mdel_nvs] at hm;exact⟨w',hr,⟨Zb h.blk hf (fun e=>h.ne e.symm),hm,h.hb,h.hk⟩,hf.mono fun _ _ h=>.inr h⟩
end
section
open Go.MapKept
open Go.ChangeMaps (setBlock)
def MapI (w:World) (r b:Nat) (l:List (ByteArray×Value)) (todo:ByteArray→Bool):Prop:=
 ∃es clock since seen c0,w.heap[b]? =some (.map es clock)∧es.toList.map (fun e=>(e.key,e.val))=l.map (fun p=>(Value.string p.1,p.2))∧Stamped es clock∧
  w.heap[r]? =some (.mapIter (some b) since seen c0)∧(∀x∈es.toList,x.born<since)∧since≤c0∧since≤clock∧(∀x∈es.toList,∀s,x.key= .string s→todo s= !seen.contains x.born)
theorem MapI.map {w:World} {r b:Nat} {l:List (ByteArray×Value)} {todo:ByteArray→Bool} (h:MapI w r b l todo):MapS w b l:=by
 obtain⟨es,clock,since,seen,c0,h1,h2,h3,_⟩:=h;exact⟨es,clock,h1,h2,h3⟩
theorem MapI.ne {w:World} {r b:Nat} {l:List (ByteArray×Value)} {todo:ByteArray→Bool} (h:MapI w r b l todo):r≠b:=by
 obtain⟨es,clock,since,seen,c0,h1,h2,h3,h4,_⟩:=h;rintro rfl;rw[h1] at h4;cases h4
theorem MapI.lt {w:World} {r b:Nat} {l:List (ByteArray×Value)} {todo:ByteArray→Bool} (h:MapI w r b l todo):r<w.heap.size:=by
 obtain⟨es,clock,since,seen,c0,h1,h2,h3,h4,_⟩:=h;exact(Array.getElem?_eq_some_iff.1 h4).1
theorem MapI.fr {S:Nat→Prop} {w w':World} {r b:Nat} {l:List (ByteArray×Value)} {todo:ByteArray→Bool} (h:MapI w r b l todo) (hf:Fr S w w') (h1:¬S r) (h2:¬S b):MapI w' r b l todo:=by
 have hlb:=h.map.lt;have hlr:=h.lt;obtain⟨es,clock,since,seen,c0,g1,g2,g3,g4,g5⟩:=h;exact⟨es,clock,since,seen,c0,(hf.block b hlb h2).trans g1,g2,g3,(hf.block r hlr h1).trans g4,g5⟩
theorem keyOf_l {l:List (ByteArray×Value)} {es:Array MapEntry} (h:es.toList.map (fun e=>(e.key,e.val))=l.map (fun p=>(Value.string p.1,p.2))) {e:MapEntry} (he:e∈es.toList):∃p∈l,e.key= .string p.1∧e.val=p.2:=by
 have h1:(e.key,e.val)∈es.toList.map (fun e=>(e.key,e.val)):=List.mem_map.2 ⟨e,he,rfl⟩;rw[h] at h1;obtain⟨p,hp,e1⟩:=List.mem_map.1 h1;exact⟨p,hp,(congrArg Prod.fst e1).symm,(congrArg Prod.snd e1).symm⟩
theorem entOf_l {l:List (ByteArray×Value)} {es:Array MapEntry} (h:es.toList.map (fun e=>(e.key,e.val))=l.map (fun p=>(Value.string p.1,p.2))) {p:ByteArray×Value} (hp:p∈l):∃e∈es.toList,e.key= .string p.1∧e.val=p.2:=by
 have h1:(Value.string p.1,p.2)∈l.map (fun p=>(Value.string p.1,p.2)):=List.mem_map.2 ⟨p,hp,rfl⟩;rw[←h] at h1;obtain⟨e,he,e1⟩:=List.mem_map.1 h1;exact⟨e,he,congrArg Prod.fst e1,congrArg Prod.snd e1⟩
theorem MapS.range {P:Program} {w:World} {b:Nat} {l:List (ByteArray×Value)} {t k e:TypeId} (h:MapS w b l) (ht:P.underlying t=some (.map k e)):
  ∃w',(Instr.range t (.map (some b))).run P w= .ok (.pointer (some ⟨w.heap.size,0,none⟩)) w'∧MapI w' w.heap.size b l (fun _=>true)∧Fr Non w w':=by
 have hlt:=h.lt;obtain⟨es,clock,h1,h2,h3⟩:=h;refine⟨_,run_range_map w t k e b es clock ht h1,⟨es,clock,clock,#[],clock,(Below.heap_alloc _ _ b hlt).trans h1,h2,h3,(heap_alloc w _).1,h3.1,Nat.le_refl _,Nat.le_refl _,fun x _ s _=>by simp⟩,(Zf w).alloc _⟩
theorem fr_block {w w1:World} {r:Nat} (o:Obj) (h:w1=w∨w1=w.drew):Fr (fun k=>k=r) w (setBlock w1 r o):=by
 rcases h with rfl|rfl
 ·exact⟨rfl,rfl,rfl,by simp[setBlock],fun k _ hn=>by have hn:k≠r:=hn;simp[setBlock,Ne.symm hn]⟩
 ·exact(Zf w).drew.non.trans ⟨rfl,rfl,rfl,by simp[setBlock],fun k _ hn=>by have hn:k≠r:=hn;simp[setBlock,Ne.symm hn]⟩
theorem born_key {es:Array MapEntry} {clock:Nat} (hs:Stamped es clock) {x y:MapEntry} (hx:x∈es.toList) (hy:y∈es.toList) (h:x.key=y.key):x=y:=by
 obtain⟨i,hi,rfl⟩:=List.mem_iff_getElem.1 hx;obtain⟨j,hj,rfl⟩:=List.mem_iff_getElem.1 hy;rcases Nat.lt_trichotomy i j with hlt|rfl|hgt
 ·have:=List.pairwise_iff_getElem.1 hs.2.2 i j (by simpa using hi) (by simpa using hj) hlt;simp only[List.getElem_map] at this;exact absurd h this
 ·rfl
 ·have:=List.pairwise_iff_getElem.1 hs.2.2 j i (by simpa using hj) (by simpa using hi) hgt;simp only[List.getElem_map] at this;exact absurd h.symm this
def strikeS (todo:ByteArray→Bool) (s:ByteArray):ByteArray→Bool:=fun x=>todo x&& !sq x s
theorem left_of {w:World} {r b:Nat} {es:Array MapEntry} {clock since c0:Nat} {seen:Array Nat} (hb:w.heap[b]? =some (.map es clock)) (hr:w.heap[r]? =some (.mapIter (some b) since seen c0)):w.rangeLeft b r=(leftOf es seen).size:=by
 simp only[World.rangeLeft,hb,hr]
theorem MapI.left_fr {S:Nat→Prop} {w w':World} {r b:Nat} {l:List (ByteArray×Value)} {todo:ByteArray→Bool} (h:MapI w r b l todo) (hf:Fr S w w') (h1:¬S r) (h2:¬S b):w'.rangeLeft b r=w.rangeLeft b r:=by
 have hlb:=h.map.lt;have hlr:=h.lt;simp only[World.rangeLeft,hf.block b hlb h2,hf.block r hlr h1]
theorem left_alloc {w:World} {r b:Nat} {l:List (ByteArray×Value)} {todo:ByteArray→Bool} {o:Obj} (h:MapI w r b l todo):(w.alloc o).rangeLeft b r=w.rangeLeft b r:=h.left_fr ((Zf w).alloc o) (non _) (non _)
theorem MapI.next {P:Program} {w:World} {r b:Nat} {l:List (ByteArray×Value)} {todo:ByteArray→Bool} (h:MapI w r b l todo):
  ((∀p∈l,todo p.1=false)∧∀ty,(Instr.next (.pointer (some ⟨r,0,none⟩)) false ty).run P w= .ok (.tuple #[.bool false]) w)∨
  ∃s v w',(s,v)∈l∧todo s=true∧(∀ty,(Instr.next (.pointer (some ⟨r,0,none⟩)) false ty).run P w= .ok (.tuple #[.bool true,.string s,v]) w')∧MapI w' r b l (strikeS todo s)∧
   (Instr.entry (.pointer (some ⟨r,0,none⟩))).run P w'= .ok (.tuple #[.string s,v]) w'∧Fr (fun k=>k=r) w w'∧w'.rangeLeft b r<w.rangeLeft b r:=by
 have hne:=h.ne;have hltb:=h.map.lt;obtain⟨es,clock,since,seen,c0,h1,h2,h3,h4,h5,h6,h8,h7⟩:=h;have hnx:=fun ty=>run_next_at (P:=P) w ty r b since c0 seen es clock h4 h1 h5 h6;by_cases hl0:(leftOf es seen).size=0
 ·left;refine⟨fun p hp=>?_,fun ty=>?_⟩
  ·obtain⟨e,he,hk,_⟩:=entOf_l h2 hp;rw[h7 e he p.1 hk,all_seen es seen hl0 e he];rfl
  ·rcases hnx ty with⟨_,hr⟩|⟨e,he,_⟩
   ·exact hr
   ·have:0<(leftOf es seen).size:=by have:=List.length_pos_of_mem he;simpa using this
    omega
 ·right;rcases hnx 0 with⟨h0,_⟩|⟨e,he,w1,hw1,hr⟩
  ·exact absurd h0 hl0
  ·obtain⟨hem,hse⟩:=mem_left he;obtain⟨p,hp,hk,hv⟩:=keyOf_l h2 hem;have hfr:=fr_block (r:=r) (.mapIter (some b) since (seen.push e.born) clock) hw1;have hty:∀ty,(Instr.next (.pointer (some ⟨r,0,none⟩)) false ty).run P w=(Instr.next (.pointer (some ⟨r,0,none⟩)) false 0).run P w:=fun ty=>rfl;have hr':(setBlock w1 r (.mapIter (some b) since (seen.push e.born) clock)).heap[r]? =some (.mapIter (some b) since (seen.push e.born) clock):=by
    have hl:r<w1.heap.size:=by
     have:r<w.heap.size:=(Array.getElem?_eq_some_iff.1 h4).1;rcases hw1 with rfl|rfl<;>exact this
    simp[setBlock,hl]
   have hb':=(hfr.block b hltb (fun e=>hne e.symm)).trans h1;have hpe:p=(p.1,p.2):=rfl;refine⟨p.1,p.2,_,hp,by rw[h7 e hem p.1 hk,hse];rfl,fun ty=>by rw[hty,hr,hk,hv],?_,?_,hfr,?_⟩
   ·refine⟨es,clock,since,seen.push e.born,clock,hb',h2,h3,hr',h5,h8,h8,fun x hx s hxs=>?_⟩;rw[contains_push,strikeS,h7 x hx s hxs];have:sq s p.1=(x.born==e.born):=by
     rw[Bool.eq_iff_iff,sq_iff,beq_iff_eq];constructor
     ·intro e1;rw[born_key h3 hx hem (by rw[hxs,hk,e1])]
     ·intro e1;have:=born_inj h3.2.1 hx hem e1;subst this;rw[hk] at hxs;cases hxs;rfl
    rw[this,Bool.not_or]
   ·rw[run_entry_at _ r b since seen es clock e hr' hb' hem h3.2.1,hk,hv]
   ·rw[left_of hb' hr',left_of h1 h4];exact left_shrinks es seen e he
theorem erase_list {es:Array MapEntry} {j:Nat}:(es.eraseIdxIfInBounds j).toList=es.toList.eraseIdx j:=by
 unfold Array.eraseIdxIfInBounds;split
 ·simp
 ·rename_i hj;rw[List.eraseIdx_of_length_le (by simpa using hj)]
theorem erase_mem {es:Array MapEntry} {j:Nat} {x:MapEntry} (h:x∈(es.eraseIdxIfInBounds j).toList):x∈es.toList:=by
 rw[erase_list] at h;exact List.mem_of_mem_eraseIdx h
theorem MapI.del {P:Program} {w:World} {r b:Nat} {l:List (ByteArray×Value)} {todo:ByteArray→Bool} {t k e:TypeId} (h:MapI w r b l todo) (ht:P.underlying t=some (.map k e)) (hk:P.underlying k=some .string) (s:ByteArray) (ty u:TypeId):
  ∃w',(Builtin.delete_ #[t,u] ty #[.map (some b),.string s]).run P w= .ok (.tuple #[]) w'∧MapI w' r b (mdel l s) todo∧Fr (fun k=>k=b) w w'∧w'.rangeLeft b r≤w.rangeLeft b r:=by
 have hlt:=h.map.lt;have hne:=h.ne;obtain⟨es,clock,since,seen,c0,hb,hl,hs,g4,g5,g6,g8,g7⟩:=h;rcases find_in hl s with⟨h1,h2,h3⟩|⟨j,e0,h1,h2,h3,h4,h5⟩
 ·rw[mdel_no h3];refine⟨_,?_,⟨es,clock,since,seen,c0,(heap_set hb).1,hl,hs,((heap_set hb).2 r hne).trans g4,g5,g6,g8,g7⟩,fr_setBlock (.map es clock) hlt,?_⟩
  ·simp[Builtin.delete_,run_underlying ht,Go.MapKept.run_getObj_map hb,Go.MapKept.run_checkKey (k:=.string s) hk trivial,Go.MapKept.run_findKey hk h1,Go.MapKept.run_setObj_map _ hb,Result.andThen]
  ·rw[left_of hb g4,left_of (heap_set hb).1 (((heap_set hb).2 r hne).trans g4)];exact Nat.le_refl _
 ·rw[mdel_at (lkeys_nodup hl hs) h4];refine⟨_,?_,⟨es.eraseIdxIfInBounds j,clock,since,seen,c0,(heap_set hb).1,?_,stamped_erase hs j,((heap_set hb).2 r hne).trans g4,fun x hx=>g5 x (erase_mem hx),g6,g8,fun x hx=>g7 x (erase_mem hx)⟩,fr_setBlock (.map (es.eraseIdxIfInBounds j) clock) hlt,?_⟩
  ·simp[Builtin.delete_,run_underlying ht,Go.MapKept.run_getObj_map hb,Go.MapKept.run_checkKey (k:=.string s) hk trivial,Go.MapKept.run_findKey hk h1,Go.MapKept.run_setObj_map _ hb,Result.andThen]
  ·rw[erase_list,List.eraseIdx_eq_take_drop_succ,List.eraseIdx_eq_take_drop_succ,List.map_append,List.map_append,List.map_take,List.map_take,List.map_drop,List.map_drop,hl]
  ·rw[left_of hb g4,left_of (heap_set hb).1 (((heap_set hb).2 r hne).trans g4)];have e2:∀q:Array MapEntry,(leftOf q seen).size=(q.toList.filter fun x=> !seen.contains x.born).length:=fun q=>by
    rw[leftOf,←Array.length_toList,Array.toList_filter]
   rw[e2,e2,erase_list];exact((List.eraseIdx_sublist _ _).filter _).length_le
theorem MapI.put {P:Program} {w:World} {r b:Nat} {l:List (ByteArray×Value)} {todo:ByteArray→Bool} {t k e:TypeId} (h:MapI w r b l todo) (ht:P.underlying t=some (.map k e)) (hk:P.underlying k=some .string) (s:ByteArray) (v:Value) (hh:mhas l s=true):
  ∃w',(Instr.mapUpdate t (.map (some b)) (.string s) v).run P w= .ok () w'∧MapI w' r b (mset l s v) todo∧Fr (fun k=>k=b) w w'∧w'.rangeLeft b r≤w.rangeLeft b r:=by
 have hlt:=h.map.lt;have hne:=h.ne;obtain⟨es,clock,since,seen,c0,hb,hl,hs,g4,g5,g6,g8,g7⟩:=h;rcases find_in hl s with⟨h1,h2,h3⟩|⟨j,e0,h1,h2,h3,h4,h5⟩
 ·rw[h3] at hh;cases hh
 ·have hmem:∀x∈(es.modify j (fun e=>{e with key:=.string s,val:=v})).toList,∃y∈es.toList,y.key=x.key∧y.born=x.born:=by
   intro x hx;obtain⟨i,hi,rfl⟩:=List.mem_iff_getElem.1 hx;have hi':i<es.size:=by simpa using hi
   refine⟨es[i],by simp,?_⟩;simp only[Array.getElem_toList,Array.getElem_modify];split
   ·rename_i hij;subst hij;have:es[j]=e0:=by have:=Array.getElem?_eq_getElem hi';rw[this] at h2;exact Option.some.inj h2
    rw[this];exact⟨h3,rfl⟩
   ·exact⟨rfl,rfl⟩
  rw[mset_at (lkeys_nodup hl hs) h4];refine⟨_,?_,⟨es.modify j (fun e=>{e with key:=.string s,val:=v}),clock,since,seen,c0,(heap_set hb).1,modify_val hl h2 h3 v _ h3.symm rfl,stamped_modify hs _ _ (fun _ _=>rfl) (fun e' _ he'=>by rw[h2] at he';cases he';exact h3.symm),((heap_set hb).2 r hne).trans g4,?_,g6,g8,?_⟩,fr_setBlock (.map (es.modify j (fun e=>{e with key:=.string s,val:=v})) clock) hlt,?_⟩
  ·simp[Instr.mapUpdate,run_underlying ht,Go.MapKept.run_getObj_map hb,Go.MapKept.run_checkKey (k:=.string s) hk trivial,Go.MapKept.run_findKey hk h1,h2,h3,run_keyThatStays (d:=.string) (k:=.string s) trivial,Go.MapKept.run_setObj_map _ hb,Result.andThen]
  ·intro x hx;obtain⟨y,hy,_,e2⟩:=hmem x hx;rw[←e2];exact g5 y hy
  ·intro x hx s' hs';obtain⟨y,hy,e1,e2⟩:=hmem x hx;rw[←e2];exact g7 y hy s' (e1.trans hs')
  ·rw[left_of hb g4,left_of (heap_set hb).1 (((heap_set hb).2 r hne).trans g4)];have e2:∀q:Array MapEntry,(leftOf q seen).size=((q.toList.map (·.born)).filter fun x=> !seen.contains x).length:=fun q=>by
    rw[leftOf,←Array.length_toList,Array.toList_filter,List.filter_map,List.length_map];rfl
   have e3:(es.modify j (fun e=>{e with key:=.string s,val:=v})).toList.map (·.born)=es.toList.map (·.born):=by
    apply List.ext_getElem
    ·simp
    ·intro i h1 h2;simp only[List.getElem_map,Array.getElem_toList,Array.getElem_modify];split<;>rfl
   rw[e2,e2,e3];exact Nat.le_refl _
theorem MapS.copy {w:World} {b:Nat} {l:List (ByteArray×Value)} (h:MapS w b l):∃o,w.heap[b]? =some o∧(∃es clock,o= .map es clock)∧MapS (w.alloc o) w.heap.size l:=by
 obtain⟨es,clock,h1,h2,h3⟩:=h;exact⟨_,h1,⟨es,clock,rfl⟩,es,clock,(heap_alloc w _).1,h2,h3⟩
end
theorem run_eqIn_nil {P:Program} (w:World) (d:Nat) (t k e:TypeId) (p:Option Nat) (h:P.underlying t=some (.map k e)):
  (Op.equalIn (d+1) t (.map p) (.map none)).run P w= .ok p.isNone w:=by
 cases p<;>simp[Op.equalIn,run_underlying h]
theorem run_eql_nil {P:Program} (w:World) (t k e:TypeId) (p:Option Nat) (h:P.underlying t=some (.map k e)):
  (binOp .eql t (.map p) (.map none)).run P w= .ok (.bool p.isNone) w:=by
 simp only[binOp];simp[show Op.equal t (.map p) (.map none)=Op.equalIn (9999+1) t (.map p) (.map none) from rfl,run_eqIn_nil w 9999 t k e p h]
theorem run_assert_map {P:Program} {w:World} (t xT k e:TypeId) (v:Value) (h:P.underlying t=some (.map k e)):(Instr.typeAssert (.iface t v) xT t false).run P w= .ok v w:=by
 simp[Instr.typeAssert,run_underlying h,go_sem,Result.andThen]
theorem run_clone {P:Program} {w:World} {r:Nat} {es:Array MapEntry} {clock:Nat} (t:TypeId) (hb:w.heap[r]? =some (.map es clock)):
  (Extern.MapsClone.clone #[.iface t (.map (some r))]).run P w= .ok (.iface t (.map (some w.heap.size))) (w.alloc (.map es clock)):=by
 have e:Extern.MapsClone.clone #[.iface t (.map (some r))]=(getObj r>>=fun o=>match o with
  | .map entries clock=>(newObj (.map entries clock)>>=fun n=>pure (.iface t (.map (some n))))
  |_=>stuck "maps.clone: a map expected"):=rfl
 rw[e];simp[MapKept.run_getObj_map hb,Result.andThen,go_sem]
theorem eclone_any (bk:Nat) (l:List (ByteArray×Value)) (w:World) (h:MapS w bk l):
  Calls Tryz.prog 129 #[.map (some bk)] w fun e w'=>e= .returned (.map (some w.heap.size))∧MapS w' w.heap.size l∧Fr Non w w':=by
 obtain⟨o,ho,⟨es,clock,rfl⟩,hm⟩:=h.copy;have hq:=fun w=>run_eql_nil (P:=Tryz.prog) w 99 _ _ (some bk) undNm;have hmi:∀w:World,(Instr.makeInterface 99 (.map (some bk))).run Tryz.prog w= .ok (.iface 99 (.map (some bk))) w:=fun w=>by kernel_rfl
 have HM:=Zh hm;clear hm;have HO:=Zh ho;clear ho h;go_enter Tryz.func129,Tryz.ntmps129
 go_wp2
 rw[run_callFunc_extern Tryz.func166 (by kernel_rfl) (by kernel_rfl) (by kernel_rfl) (e:=Extern.MapsClone.clone) (by kernel_rfl),run_clone 99 HO.out];simp only[Result.andThen];rw[Oper.upon_value]
 go_wp2
 rw[run_assert_map 99 20 _ _ _ undNm];simp only[Result.andThen];rw[Oper.upon_value]
 go_wp2
 go_ret;exact⟨rfl,HM.out,(Zf w).alloc _⟩
end Go.Proofs.YtpkpgmnbheenbaaGreatDoor
