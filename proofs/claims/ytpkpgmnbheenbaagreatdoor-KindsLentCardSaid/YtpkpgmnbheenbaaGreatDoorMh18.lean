/- Contracts and laws, Mh18 -/
import Derived.Test.YtpkpgmnbheenbaaGreatDoorMh01
import Derived.Test.YtpkpgmnbheenbaaGreatDoorMh04
import Derived.Test.YtpkpgmnbheenbaaGreatDoorMh05
import Derived.Test.YtpkpgmnbheenbaaGreatDoorMh17
import Derived.Deep.CutBlock
import Derived.StillTailTactics
import Derived.Deep.RegionWith
import Derived.Outline
namespace Go.Proofs.YtpkpgmnbheenbaaGreatDoor
open Go.RowKit
set_option linter.unusedVariables false
set_option linter.unusedSimpArgs false
set_option maxHeartbeats 8000000
set_option maxRecDepth 100000
def methL:List (Int×Value):=[(1,.func (.func 88) #[] #[]),(2,.func (.func 89) #[] #[]),(3,.func (.func 90) #[] #[]),(4,.func (.func 91) #[] #[]),(5,.func (.func 92) #[] #[]),(6,.func (.func 93) #[] #[]),(7,.func (.func 93) #[] #[]),(8,.func (.func 94) #[] #[]),(9,.func (.func 95) #[] #[]),(10,.func (.func 96) #[] #[]),(11,.func (.func 97) #[] #[]),(12,.func (.func 98) #[] #[])]
def mK (k:UInt8):FuncId:=if k.toNat=1 then 88 else if k.toNat=2 then 89 else if k.toNat=3 then 90 else if k.toNat=4 then 91 else if k.toNat=5 then 92 else if k.toNat=6 then 93 else if k.toNat=7 then 93 else if k.toNat=8 then 94 else if k.toNat=9 then 95 else if k.toNat=10 then 96 else if k.toNat=11 then 97 else 98
theorem undMe:Tryz.prog.underlying 106=some (.map 5 105):=by kernel_rfl
theorem zeroMe (w:World):(zeroValue 105).run Tryz.prog w= .ok .nilFunc w:=by kernel_rfl
theorem meth_at (k:UInt8) (h1:1≤k.toNat) (h2:k.toNat≤12):((methL.find? fun p=>p.1==(k.toNat:Int)).map (·.2)).getD .nilFunc= .func (.func (mK k)) #[] #[]:=by
 unfold mK;generalize k.toNat=n at*;rcases(by omega:n=1∨n=2∨n=3∨n=4∨n=5∨n=6∨n=7∨n=8∨n=9∨n=10∨n=11∨n=12) with rfl|rfl|rfl|rfl|rfl|rfl|rfl|rfl|rfl|rfl|rfl|rfl<;>rfl
theorem ent_let:∀(args:Array Value) (w:World),(callFunc 88 args).run Tryz.prog w= .ok (.enter 88 args) w:=fun _ _=>by kernel_rfl
theorem ent_set:∀(args:Array Value) (w:World),(callFunc 89 args).run Tryz.prog w= .ok (.enter 89 args) w:=fun _ _=>by kernel_rfl
theorem ent_buf:∀(args:Array Value) (w:World),(callFunc 90 args).run Tryz.prog w= .ok (.enter 90 args) w:=fun _ _=>by kernel_rfl
theorem ent_put:∀(args:Array Value) (w:World),(callFunc 91 args).run Tryz.prog w= .ok (.enter 91 args) w:=fun _ _=>by kernel_rfl
theorem ent_either:∀(args:Array Value) (w:World),(callFunc 92 args).run Tryz.prog w= .ok (.enter 92 args) w:=fun _ _=>by kernel_rfl
theorem ent_loop:∀(args:Array Value) (w:World),(callFunc 93 args).run Tryz.prog w= .ok (.enter 93 args) w:=fun _ _=>by kernel_rfl
theorem ent_lend:∀(args:Array Value) (w:World),(callFunc 94 args).run Tryz.prog w= .ok (.enter 94 args) w:=fun _ _=>by kernel_rfl
theorem ent_move:∀(args:Array Value) (w:World),(callFunc 95 args).run Tryz.prog w= .ok (.enter 95 args) w:=fun _ _=>by kernel_rfl
theorem ent_open:∀(args:Array Value) (w:World),(callFunc 96 args).run Tryz.prog w= .ok (.enter 96 args) w:=fun _ _=>by kernel_rfl
theorem ent_call:∀(args:Array Value) (w:World),(callFunc 97 args).run Tryz.prog w= .ok (.enter 97 args) w:=fun _ _=>by kernel_rfl
theorem ent_seal:∀(args:Array Value) (w:World),(callFunc 98 args).run Tryz.prog w= .ok (.enter 98 args) w:=fun _ _=>by kernel_rfl
theorem ent_mK (k:UInt8):∀(args:Array Value) (w:World),(callFunc (mK k) args).run Tryz.prog w= .ok (.enter (mK k) args) w:=by
 unfold mK;by_cases h1:k.toNat=1
 ·rw[if_pos h1];exact ent_let
 rw[if_neg h1];by_cases h2:k.toNat=2
 ·rw[if_pos h2];exact ent_set
 rw[if_neg h2];by_cases h3:k.toNat=3
 ·rw[if_pos h3];exact ent_buf
 rw[if_neg h3];by_cases h4:k.toNat=4
 ·rw[if_pos h4];exact ent_put
 rw[if_neg h4];by_cases h5:k.toNat=5
 ·rw[if_pos h5];exact ent_either
 rw[if_neg h5];by_cases h6:k.toNat=6
 ·rw[if_pos h6];exact ent_loop
 rw[if_neg h6];by_cases h7:k.toNat=7
 ·rw[if_pos h7];exact ent_loop
 rw[if_neg h7];by_cases h8:k.toNat=8
 ·rw[if_pos h8];exact ent_lend
 rw[if_neg h8];by_cases h9:k.toNat=9
 ·rw[if_pos h9];exact ent_move
 rw[if_neg h9];by_cases h10:k.toNat=10
 ·rw[if_pos h10];exact ent_open
 rw[if_neg h10];by_cases h11:k.toNat=11
 ·rw[if_pos h11];exact ent_call
 rw[if_neg h11];exact ent_seal
theorem emeth_any (w:World):Calls Tryz.prog 65 #[] w fun e w'=>e= .returned (.map (some w.heap.size))∧MapK w' w.heap.size methL∧Fr Non w w':=by
 have hmm:=@run_makeMap Tryz.prog;have hm0:=MapK.new w;have hf0:=(Fr.refl (fun k=>k=w.heap.size) w).alloc (.map #[] 0);obtain⟨w1,hr1,hm1,hg1⟩:=hm0.ins undMe undU8 1 (.func (.func 88) #[] #[]) (by simp);have hf1:=hf0.trans hg1;clear hm0 hf0 hg1;obtain⟨w2,hr2,hm2,hg2⟩:=hm1.ins undMe undU8 2 (.func (.func 89) #[] #[]) (by simp);have hf2:=hf1.trans hg2;clear hm1 hf1 hg2;obtain⟨w3,hr3,hm3,hg3⟩:=hm2.ins undMe undU8 3 (.func (.func 90) #[] #[]) (by simp);have hf3:=hf2.trans hg3;clear hm2 hf2 hg3;obtain⟨w4,hr4,hm4,hg4⟩:=hm3.ins undMe undU8 4 (.func (.func 91) #[] #[]) (by simp);have hf4:=hf3.trans hg4;clear hm3 hf3 hg4;obtain⟨w5,hr5,hm5,hg5⟩:=hm4.ins undMe undU8 5 (.func (.func 92) #[] #[]) (by simp);have hf5:=hf4.trans hg5;clear hm4 hf4 hg5;obtain⟨w6,hr6,hm6,hg6⟩:=hm5.ins undMe undU8 6 (.func (.func 93) #[] #[]) (by simp);have hf6:=hf5.trans hg6;clear hm5 hf5 hg6;obtain⟨w7,hr7,hm7,hg7⟩:=hm6.ins undMe undU8 7 (.func (.func 93) #[] #[]) (by simp);have hf7:=hf6.trans hg7;clear hm6 hf6 hg7;obtain⟨w8,hr8,hm8,hg8⟩:=hm7.ins undMe undU8 8 (.func (.func 94) #[] #[]) (by simp);have hf8:=hf7.trans hg8;clear hm7 hf7 hg8;obtain⟨w9,hr9,hm9,hg9⟩:=hm8.ins undMe undU8 9 (.func (.func 95) #[] #[]) (by simp);have hf9:=hf8.trans hg9;clear hm8 hf8 hg9;obtain⟨w10,hr10,hm10,hg10⟩:=hm9.ins undMe undU8 10 (.func (.func 96) #[] #[]) (by simp);have hf10:=hf9.trans hg10;clear hm9 hf9 hg10;obtain⟨w11,hr11,hm11,hg11⟩:=hm10.ins undMe undU8 11 (.func (.func 97) #[] #[]) (by simp);have hf11:=hf10.trans hg11;clear hm10 hf10 hg11;obtain⟨w12,hr12,hm12,hg12⟩:=hm11.ins undMe undU8 12 (.func (.func 98) #[] #[]) (by simp);have hf12:=hf11.trans hg12;clear hm11 hf11 hg12;have HM:=Zh hm12;have HF:=Zh hf12;clear hm12 hf12;go_enter Tryz.func65,Tryz.ntmps65;go_wp2_with fail;go_ret;exact⟨rfl,HM.out,HF.out.mono fun k hk h=>by have h:k=w.heap.size:=h;omega⟩
def EStC (base b:Nat) (ok:Nat→Prop) (PA:Option Addr) (pc:Nat) (P:List Fu) (F:Nat) (ru:Int) (N:Nat):Prop:=
 ∀(s:St) (d:Nat) (A1 A2 A3 A4:Option Addr) (c1 c2 c3 c4:Nat) (w:World) (a:Ev) (bk:Nat),s.size≤N→St.ok s d=true→StRd ok w s A1 A2 A3 A4 c1 c2 c3 c4→0≤a.n→a.n+s.size≤1099511627777→0≤a.loops→a.loops≤d→
  EvAt base b (.slice PA P.length pc) ru F w a bk→ScP base ok PA pc P F w→
  Calls Tryz.prog (mK s.kind) #[.pointer (some ⟨b,0,none⟩),stV s A1 A2 A3 A4 c1 c2 c3 c4] w (StE base b (.slice PA P.length pc) ru F w bk (evStmt ru P F s a))
def EBlC (base b:Nat) (ok:Nat→Prop) (PA:Option Addr) (pc:Nat) (P:List Fu) (F:Nat) (ru:Int) (N:Nat):Prop:=
 ∀(l:List St) (d:Nat) (A:Option Addr) (c:Nat) (w:World) (a:Ev) (bk:Nat),St.sizes l≤N→St.oks l d=true→RdRows ok w 9 A 0 (St.ds l)→l.length*144≤reach→0≤a.n→a.n+St.sizes l≤1099511627776→0≤a.loops→a.loops≤d→
  EvAt base b (.slice PA P.length pc) ru F w a bk→ScP base ok PA pc P F w→
  Calls Tryz.prog 130 #[.pointer (some ⟨b,0,none⟩),.slice A l.length c] w (StE base b (.slice PA P.length pc) ru F w bk (evBlock ru P F l a))
theorem elet_any (base b:Nat) (ok:Nat→Prop) (PA:Option Addr) (pc:Nat) (P:List Fu) (F:Nat) (ru:Int) (s:St) (d:Nat) (A1 A2 A3 A4:Option Addr) (c1 c2 c3 c4:Nat) (w:World) (a:Ev) (bk:Nat) (hk:s.kind.toNat=1) (hok:St.ok s d=true) (hrd:StRd ok w s A1 A2 A3 A4 c1 c2 c3 c4) (h:EvAt base b (.slice PA P.length pc) ru F w a bk):
  Calls Tryz.prog 88 #[.pointer (some ⟨b,0,none⟩),stV s A1 A2 A3 A4 c1 c2 c3 c4] w (StE base b (.slice PA P.length pc) ru F w bk (evStmt ru P F s a)):=by
 have FF:=form_facts (sc_form s d hok);have hlen:=(FF.other (by omega)).2.1;have HS:=Zh (evs_1 ru P F s a hk);have hx0:0<s.ex.length:=by simp[nEx,hk] at hlen;omega
 have HEM0:=Zh (exs_all FF.exs hx0);obtain⟨xb,xo,_,_,rfl,_⟩:=ex_cells hrd.ex.2.2 0 hx0;have hl1:s.ex.length≤140737488355328:=by have:=hrd.ex.2.1;unfold reach at this;omega
 clear FF hlen hok;obtain⟨W0,HW0⟩:∃W0,W0=w.alloc (.cells #[vu8 s.kind,.string s.name,.string s.frm,.bool s.sec,.bool s.mt,.slice (some ⟨xb,xo,none⟩) s.ex.length c1,.slice A2 s.args.length c2,.slice A3 s.body.length c3,.slice A4 s.els.length c4] 42):=⟨_,rfl⟩;have hf0:Fr Non w W0:=by rw[HW0];exact(Zf w).alloc _
 have B0:=Zh (show W0.heap[w.heap.size]? =some (.cells #[vu8 s.kind,.string s.name,.string s.frm,.bool s.sec,.bool s.mt,.slice (some ⟨xb,xo,none⟩) s.ex.length c1,.slice A2 s.args.length c2,.slice A3 s.body.length c3,.slice A4 s.els.length c4] 42 (0,0)) by rw[HW0];exact blk_new _ _ _);have H0:=Zh (h.stay hf0);have D0:=Zh (hrd.fr hf0 fun _ _=>non _);have F0:=Zh hf0;have hwb:=(h.lt b (.inl rfl)).2;have hwk:=(h.lt bk (.inr rfl)).2;clear h hrd hf0;go_enter Tryz.func88,Tryz.ntmps88;go_upto_region 1 with fail;rw[←HW0];clear HW0;have s5:=(Zc B0.out).1 5 _ rfl;obtain⟨xb',xo',xA,xc,xe,x0,x1,x2,x3,x4,xr⟩:=ex_cells D0.out.ex.2.2 0 hx0;obtain⟨rfl,rfl⟩:xb=xb'∧xo=xo':=by cases xe;exact⟨rfl,rfl⟩
 clear xe;simp only[Nat.zero_mul,Nat.one_mul,Nat.add_zero] at x0 x1 x2 x3 x4;have s3:=(Zc B0.out).1 3 _ rfl
 go_still_tail 7,(by kernel_rfl)
 change wpList _ _ _ _ _ W0.drew
 have hd:=(Zf W0).drew;clear s5 x0 x1 x2 x3 x4 s3;have H1:=Zh (H0.out.stay hd);have B1:=Zh (Zb B0.out hd (non _));have D1:=Zh (D0.out.fr hd fun _ _=>non _);have F1:=Zh (F0.out.trans hd);have xr:=xr.fr hd (fun _ _=>non _) (fun _ h=>h);clear hd;go_wp2_with fail;refine(einto_any (exAt s.ex 0) s.sec ok xA xc base b _ ru F W0.drew a bk HEM0.out xr H1.out).mono ?_;rintro r w2 ⟨he,hf⟩;have H2:=Zh (H1.out.stay hf);have B2:=Zh (Zb B1.out hf (non _));have D2:=Zh (D1.out.fr hf fun _ _=>non _);have F2:=Zh (F1.out.trans hf);clear hf xr;cases hq:a.into ru (exAt s.ex 0) s.sec with
 |false=>
  rw[hq] at he;obtain rfl:=he.f;clear he;have Q1:=Zh hq;clear hq;go_wp2_with fail;exact⟨rfl,stE_no HS.out (Q1.out) F2.out⟩
 |true=>
  rw[hq] at he;obtain rfl:=he.t;clear he;have Q1:=Zh hq;clear hq;have s1:=(Zc B2.out).1 1 _ rfl;have s3:=(Zc B2.out).1 3 _ rfl;go_wp2_with fail;refine(egive_any base b _ ru F w2 a bk s.name (Nm.num s.sec true) H2.out).mono ?_;rintro r wz ⟨rfl,hf,h⟩;clear s1 s3;have HZ:=Zh h;have FZ:=Zh (F2.out.non.trans (hf.mono (T:=ES b bk) fun _ _ h=>.inr h));clear h hf;go_wp2_with fail
  go_end0
  exact stE_yes HS.out (Q1.out) FZ.out HZ.out (.inl rfl)
theorem eset_any (base b:Nat) (ok:Nat→Prop) (PA:Option Addr) (pc:Nat) (P:List Fu) (F:Nat) (ru:Int) (s:St) (d:Nat) (A1 A2 A3 A4:Option Addr) (c1 c2 c3 c4:Nat) (w:World) (a:Ev) (bk:Nat) (hk:s.kind.toNat=2) (hok:St.ok s d=true) (hrd:StRd ok w s A1 A2 A3 A4 c1 c2 c3 c4) (h:EvAt base b (.slice PA P.length pc) ru F w a bk):
  Calls Tryz.prog 89 #[.pointer (some ⟨b,0,none⟩),stV s A1 A2 A3 A4 c1 c2 c3 c4] w (StE base b (.slice PA P.length pc) ru F w bk (evStmt ru P F s a)):=by
 have FF:=form_facts (sc_form s d hok);have hlen:=(FF.other (by omega)).2.1;have HS:=Zh (evs_2 ru P F s a hk);have hx0:0<s.ex.length:=by simp[nEx,hk] at hlen;omega
 have HEM0:=Zh (exs_all FF.exs hx0);obtain⟨xb,xo,_,_,rfl,_⟩:=ex_cells hrd.ex.2.2 0 hx0;have hl1:s.ex.length≤140737488355328:=by have:=hrd.ex.2.1;unfold reach at this;omega
 clear FF hlen hok;obtain⟨W0,HW0⟩:∃W0,W0=w.alloc (.cells #[vu8 s.kind,.string s.name,.string s.frm,.bool s.sec,.bool s.mt,.slice (some ⟨xb,xo,none⟩) s.ex.length c1,.slice A2 s.args.length c2,.slice A3 s.body.length c3,.slice A4 s.els.length c4] 42):=⟨_,rfl⟩;have hf0:Fr Non w W0:=by rw[HW0];exact(Zf w).alloc _
 have B0:=Zh (show W0.heap[w.heap.size]? =some (.cells #[vu8 s.kind,.string s.name,.string s.frm,.bool s.sec,.bool s.mt,.slice (some ⟨xb,xo,none⟩) s.ex.length c1,.slice A2 s.args.length c2,.slice A3 s.body.length c3,.slice A4 s.els.length c4] 42 (0,0)) by rw[HW0];exact blk_new _ _ _);have H0:=Zh (h.stay hf0);have D0:=Zh (hrd.fr hf0 fun _ _=>non _);have F0:=Zh hf0;have hwb:=(h.lt b (.inl rfl)).2;have hwk:=(h.lt bk (.inr rfl)).2;clear h hrd hf0;go_enter Tryz.func89,Tryz.ntmps89;go_upto_region 1 with fail;rw[←HW0];clear HW0;have s5:=(Zc B0.out).1 5 _ rfl;obtain⟨xb',xo',xA,xc,xe,x0,x1,x2,x3,x4,xr⟩:=ex_cells D0.out.ex.2.2 0 hx0;obtain⟨rfl,rfl⟩:xb=xb'∧xo=xo':=by cases xe;exact⟨rfl,rfl⟩
 clear xe;simp only[Nat.zero_mul,Nat.one_mul,Nat.add_zero] at x0 x1 x2 x3 x4;go_wp2_with fail;refine(esecx_any (exAt s.ex 0) ok xA xc base b _ ru F W0 a bk HEM0.out xr H0.out).mono ?_;rintro r w1 ⟨he,hf⟩;clear s5 x0 x1 x2 x3 x4;have H1:=Zh (H0.out.stay hf);have B1:=Zh (Zb B0.out hf (non _));have D1:=Zh (D0.out.fr hf fun _ _=>non _);have F1:=Zh (F0.out.trans hf);clear hf xr;cases hq:Ex.so ru a.g (exAt s.ex 0) with
 |false=>
  rw[hq] at he;obtain rfl:=he.f;clear he;have Q1:=Zh hq;clear hq;go_wp2_with fail;exact⟨rfl,stE_no HS.out (by rw[Ev.setOk,Q1.out];rfl) F1.out⟩
 |true=>
  rw[hq] at he;obtain rfl:=he.t;clear he;have Q1:=Zh hq;clear hq;have s1:=(Zc B1.out).1 1 _ rfl;go_wp2_with fail;refine(enum_any base b _ ru F w1 a bk s.name H1.out).mono ?_;rintro r w2 ⟨he,hf⟩;clear s1;have H2:=Zh (H1.out.stay hf);have B2:=Zh (Zb B1.out hf (non _));have D2:=Zh (D1.out.fr hf fun _ _=>non _);have F2:=Zh (F1.out.trans hf);clear hf;obtain⟨x,hx⟩:∃x,a.g s.name=x:=⟨_,rfl⟩;rw[hx] at he;have HX:=Zh hx;clear hx;cases hq:x.numOk ru with
  |false=>
   rw[hq] at he;obtain rfl:=he.f;clear he;have Q2:=Zh hq;clear hq;go_wp2_with fail;exact⟨rfl,stE_no HS.out (by rw[Ev.setOk,HX.out,Q1.out,Q2.out];rfl) F2.out⟩
  |true=>
   rw[hq] at he;obtain rfl:=he.t;clear he;have Q2:=Zh hq;clear hq;have hzx:w.heap.size≤w2.heap.size:=F2.out.size;obtain⟨W3,HW3⟩:∃W,W=w2.alloc (.cells #[.bool x.buf,.bool x.sec,.bool x.mt,.bool x.own,.bool x.set,.bool x.gone,.int .i64 x.lent,.int .i64 x.loops] 104):=⟨_,rfl⟩;have hf:Fr Non w2 W3:=by rw[HW3];exact(Zf _).alloc _
   have X3:=Zh (show W3.heap[w2.heap.size]? =some (.cells #[.bool x.buf,.bool x.sec,.bool x.mt,.bool x.own,.bool x.set,.bool x.gone,.int .i64 x.lent,.int .i64 x.loops] 104 (0,0)) by rw[HW3];exact blk_new _ _ _);have H3:=Zh (H2.out.stay hf);have B3:=Zh (Zb B2.out hf (non _));have D3:=Zh (D2.out.fr hf fun _ _=>non _);have F3:=Zh (F2.out.trans hf);clear hf;go_upto_region 3 with fail;rw[←HW3];clear HW3;have y4:=(Zc X3.out).1 4 _ rfl;go_wp2_with fail;refine(ekind_any base b _ ru F W3 a bk x.set H3.out).mono ?_;rintro r w4 ⟨he,rfl⟩;clear y4;cases hq:chk ru 1 x.set with
   |false=>
    rw[hq] at he;obtain rfl:=he.f;clear he;have Q3:=Zh hq;clear hq;go_wp2_with fail;exact⟨rfl,stE_no HS.out (by rw[Ev.setOk,HX.out,Q1.out,Q2.out,Q3.out];rfl) F3.out⟩
   |true=>
    rw[hq] at he;obtain rfl:=he.t;clear he;have Q3:=Zh hq;clear hq;obtain⟨v,hv⟩:∃v,Ex.sv a.g (exAt s.ex 0)=v:=⟨_,rfl⟩;rw[hv];have HV:=Zh hv;clear hv;obtain⟨xs,hxs⟩:∃v,x.sec=v:=⟨_,rfl⟩;have y1:W3.cell? ⟨_,1,none⟩=some (.bool x.sec):=(Zc X3.out).1 1 _ rfl;rw[hxs] at y1;have HXS:=Zh hxs;clear hxs;cases xs<;>cases v;all_goals
     go_wp2_with fail;refine(eclear_any base b _ ru F W3 a bk _ H3.out).mono ?_;rintro r wq ⟨he,rfl⟩;generalize hc:chk ru 2 _=cc at he;have HC:=Zh hc;clear hc;cases cc
     ·obtain rfl:=he.f;clear he;go_wp2_with fail;exact⟨rfl,stE_no HS.out (by rw[Ev.setOk,HX.out,Q1.out,Q2.out,Q3.out,HV.out,HXS.out];exact HC.out) F3.out⟩
     ·obtain rfl:=he.t;clear he;go_wp2_with fail
      go_end0
      exact stE_yes HS.out (by rw[Ev.setOk,HX.out,Q1.out,Q2.out,Q3.out,HV.out,HXS.out];exact HC.out) F3.out.non H3.out (.inl rfl)
theorem ebufst_any (base b:Nat) (ok:Nat→Prop) (PA:Option Addr) (pc:Nat) (P:List Fu) (F:Nat) (ru:Int) (s:St) (d:Nat) (A1 A2 A3 A4:Option Addr) (c1 c2 c3 c4:Nat) (w:World) (a:Ev) (bk:Nat) (hk:s.kind.toNat=3) (hok:St.ok s d=true) (hrd:StRd ok w s A1 A2 A3 A4 c1 c2 c3 c4) (h:EvAt base b (.slice PA P.length pc) ru F w a bk):
  Calls Tryz.prog 90 #[.pointer (some ⟨b,0,none⟩),stV s A1 A2 A3 A4 c1 c2 c3 c4] w (StE base b (.slice PA P.length pc) ru F w bk (evStmt ru P F s a)):=by
 have FF:=form_facts (sc_form s d hok);have hlen:=(FF.other (by omega)).2.1;have HS:=Zh (evs_3 ru P F s a hk);have hx0:0<s.ex.length:=by simp[nEx,hk] at hlen;omega
 have HEM0:=Zh (exs_all FF.exs hx0);obtain⟨xb,xo,_,_,rfl,_⟩:=ex_cells hrd.ex.2.2 0 hx0;have hl1:s.ex.length≤140737488355328:=by have:=hrd.ex.2.1;unfold reach at this;omega
 clear FF hlen hok;obtain⟨W0,HW0⟩:∃W0,W0=w.alloc (.cells #[vu8 s.kind,.string s.name,.string s.frm,.bool s.sec,.bool s.mt,.slice (some ⟨xb,xo,none⟩) s.ex.length c1,.slice A2 s.args.length c2,.slice A3 s.body.length c3,.slice A4 s.els.length c4] 42):=⟨_,rfl⟩;have hf0:Fr Non w W0:=by rw[HW0];exact(Zf w).alloc _
 have B0:=Zh (show W0.heap[w.heap.size]? =some (.cells #[vu8 s.kind,.string s.name,.string s.frm,.bool s.sec,.bool s.mt,.slice (some ⟨xb,xo,none⟩) s.ex.length c1,.slice A2 s.args.length c2,.slice A3 s.body.length c3,.slice A4 s.els.length c4] 42 (0,0)) by rw[HW0];exact blk_new _ _ _);have H0:=Zh (h.stay hf0);have D0:=Zh (hrd.fr hf0 fun _ _=>non _);have F0:=Zh hf0;have hwb:=(h.lt b (.inl rfl)).2;have hwk:=(h.lt bk (.inr rfl)).2;clear h hrd hf0;go_enter Tryz.func90,Tryz.ntmps90;go_upto_region 1 with fail;rw[←HW0];clear HW0;have s5:=(Zc B0.out).1 5 _ rfl;obtain⟨xb',xo',xA,xc,xe,x0,x1,x2,x3,x4,xr⟩:=ex_cells D0.out.ex.2.2 0 hx0;obtain⟨rfl,rfl⟩:xb=xb'∧xo=xo':=by cases xe;exact⟨rfl,rfl⟩
 clear xe;simp only[Nat.zero_mul,Nat.one_mul,Nat.add_zero] at x0 x1 x2 x3 x4;go_wp2_with fail;refine(einto_any (exAt s.ex 0) false ok xA xc base b _ ru F W0 a bk HEM0.out xr H0.out).mono ?_;rintro r w1 ⟨he,hf⟩;clear s5 x0 x1 x2 x3 x4;have H1:=Zh (H0.out.stay hf);have B1:=Zh (Zb B0.out hf (non _));have D1:=Zh (D0.out.fr hf fun _ _=>non _);have F1:=Zh (F0.out.trans hf);clear hf xr;cases hq:a.into ru (exAt s.ex 0) false with
 |false=>
  rw[hq] at he;obtain rfl:=he.f;clear he;have Q1:=Zh hq;clear hq;go_wp2_with fail;exact⟨rfl,stE_no HS.out (Q1.out) F1.out⟩
 |true=>
  rw[hq] at he;obtain rfl:=he.t;clear he;have Q1:=Zh hq;clear hq;have s1:=(Zc B1.out).1 1 _ rfl;have s3:=(Zc B1.out).1 3 _ rfl;go_wp2_with fail;refine(egive_any base b _ ru F w1 a bk s.name (Nm.bufv s.sec true true) H1.out).mono ?_;rintro r wz ⟨rfl,hf,h⟩;clear s1 s3;have HZ:=Zh h;have FZ:=Zh (F1.out.non.trans (hf.mono (T:=ES b bk) fun _ _ h=>.inr h));clear h hf;go_wp2_with fail
  go_end0
  exact stE_yes HS.out (Q1.out) FZ.out HZ.out (.inl rfl)
theorem eput_any (base b:Nat) (ok:Nat→Prop) (PA:Option Addr) (pc:Nat) (P:List Fu) (F:Nat) (ru:Int) (s:St) (d:Nat) (A1 A2 A3 A4:Option Addr) (c1 c2 c3 c4:Nat) (w:World) (a:Ev) (bk:Nat) (hk:s.kind.toNat=4) (hok:St.ok s d=true) (hrd:StRd ok w s A1 A2 A3 A4 c1 c2 c3 c4) (h:EvAt base b (.slice PA P.length pc) ru F w a bk):
  Calls Tryz.prog 91 #[.pointer (some ⟨b,0,none⟩),stV s A1 A2 A3 A4 c1 c2 c3 c4] w (StE base b (.slice PA P.length pc) ru F w bk (evStmt ru P F s a)):=by
 have FF:=form_facts (sc_form s d hok);have hlen:=(FF.other (by omega)).2.1;have HS:=Zh (evs_4 ru P F s a hk);have hx0:0<s.ex.length:=by simp[nEx,hk] at hlen;omega
 have HEM0:=Zh (exs_all FF.exs hx0);have hx1:1<s.ex.length:=by simp[nEx,hk] at hlen;omega
 have HEM1:=Zh (exs_all FF.exs hx1);obtain⟨xb,xo,_,_,rfl,_⟩:=ex_cells hrd.ex.2.2 0 hx0;have hl1:s.ex.length≤140737488355328:=by have:=hrd.ex.2.1;unfold reach at this;omega
 clear FF hlen hok;obtain⟨W0,HW0⟩:∃W0,W0=w.alloc (.cells #[vu8 s.kind,.string s.name,.string s.frm,.bool s.sec,.bool s.mt,.slice (some ⟨xb,xo,none⟩) s.ex.length c1,.slice A2 s.args.length c2,.slice A3 s.body.length c3,.slice A4 s.els.length c4] 42):=⟨_,rfl⟩;have hf0:Fr Non w W0:=by rw[HW0];exact(Zf w).alloc _
 have B0:=Zh (show W0.heap[w.heap.size]? =some (.cells #[vu8 s.kind,.string s.name,.string s.frm,.bool s.sec,.bool s.mt,.slice (some ⟨xb,xo,none⟩) s.ex.length c1,.slice A2 s.args.length c2,.slice A3 s.body.length c3,.slice A4 s.els.length c4] 42 (0,0)) by rw[HW0];exact blk_new _ _ _);have H0:=Zh (h.stay hf0);have D0:=Zh (hrd.fr hf0 fun _ _=>non _);have F0:=Zh hf0;have hwb:=(h.lt b (.inl rfl)).2;have hwk:=(h.lt bk (.inr rfl)).2;clear h hrd hf0;go_enter Tryz.func91,Tryz.ntmps91;go_upto_region 1 with fail;rw[←HW0];clear HW0;have s5:=(Zc B0.out).1 5 _ rfl;obtain⟨xb',xo',xA,xc,xe,x0,x1,x2,x3,x4,xr⟩:=ex_cells D0.out.ex.2.2 0 hx0;obtain⟨rfl,rfl⟩:xb=xb'∧xo=xo':=by cases xe;exact⟨rfl,rfl⟩
 clear xe;simp only[Nat.zero_mul,Nat.one_mul,Nat.add_zero] at x0 x1 x2 x3 x4;go_wp2_with fail;refine(einto_any (exAt s.ex 0) false ok xA xc base b _ ru F W0 a bk HEM0.out xr H0.out).mono ?_;rintro r w1 ⟨he,hf⟩;clear s5 x0 x1 x2 x3 x4;have H1:=Zh (H0.out.stay hf);have B1:=Zh (Zb B0.out hf (non _));have D1:=Zh (D0.out.fr hf fun _ _=>non _);have F1:=Zh (F0.out.trans hf);clear hf xr;cases hq:a.into ru (exAt s.ex 0) false with
 |false=>
  rw[hq] at he;obtain rfl:=he.f;clear he;have Q1:=Zh hq;clear hq;go_wp2_with fail;exact⟨rfl,stE_no HS.out (by rw[Ev.putOk,Q1.out];rfl) F1.out⟩
 |true=>
  rw[hq] at he;obtain rfl:=he.t;clear he;have Q1:=Zh hq;clear hq;have s5:=(Zc B1.out).1 5 _ rfl;obtain⟨xb',xo',xA,xc,xe,x0,x1,x2,x3,x4,xr⟩:=ex_cells D1.out.ex.2.2 1 hx1;obtain⟨rfl,rfl⟩:xb=xb'∧xo=xo':=by cases xe;exact⟨rfl,rfl⟩
  clear xe;simp only[Nat.zero_mul,Nat.one_mul,Nat.add_zero] at x0 x1 x2 x3 x4;go_wp2_with fail;refine(esecx_any (exAt s.ex 1) ok xA xc base b _ ru F w1 a bk HEM1.out xr H1.out).mono ?_;rintro r w2 ⟨he,hf⟩;clear s5 x0 x1 x2 x3 x4;have H2:=Zh (H1.out.stay hf);have B2:=Zh (Zb B1.out hf (non _));have D2:=Zh (D1.out.fr hf fun _ _=>non _);have F2:=Zh (F1.out.trans hf);clear hf xr;cases hq:Ex.so ru a.g (exAt s.ex 1) with
  |false=>
   rw[hq] at he;obtain rfl:=he.f;clear he;have Q2:=Zh hq;clear hq;go_wp2_with fail;exact⟨rfl,stE_no HS.out (by rw[Ev.putOk,Q1.out,Q2.out];rfl) F2.out⟩
  |true=>
   rw[hq] at he;obtain rfl:=he.t;clear he;have Q2:=Zh hq;clear hq;have s1:=(Zc B2.out).1 1 _ rfl;go_wp2_with fail;refine(eturn_any base b _ ru F w2 a bk s.name H2.out).mono ?_;rintro r w3 ⟨he,hf⟩;clear s1;have H3:=Zh (H2.out.stay hf);have B3:=Zh (Zb B2.out hf (non _));have D3:=Zh (D2.out.fr hf fun _ _=>non _);have F3:=Zh (F2.out.trans hf);clear hf;obtain⟨x,hx⟩:∃x,a.g s.name=x:=⟨_,rfl⟩;rw[hx] at he;have HX:=Zh hx;clear hx;cases hq:x.turnOk ru with
   |false=>
    rw[hq] at he;obtain rfl:=he.f;clear he;have Q3:=Zh hq;clear hq;go_wp2_with fail;exact⟨rfl,stE_no HS.out (by rw[Ev.putOk,HX.out,Q1.out,Q2.out,Q3.out];rfl) F3.out⟩
   |true=>
    rw[hq] at he;obtain rfl:=he.t;clear he;have Q3:=Zh hq;clear hq;have hzx:w.heap.size≤w3.heap.size:=F3.out.size;obtain⟨W4,HW4⟩:∃W,W=w3.alloc (.cells #[.bool x.buf,.bool x.sec,.bool x.mt,.bool x.own,.bool x.set,.bool x.gone,.int .i64 x.lent,.int .i64 x.loops] 104):=⟨_,rfl⟩;have hf:Fr Non w3 W4:=by rw[HW4];exact(Zf _).alloc _
    have X4:=Zh (show W4.heap[w3.heap.size]? =some (.cells #[.bool x.buf,.bool x.sec,.bool x.mt,.bool x.own,.bool x.set,.bool x.gone,.int .i64 x.lent,.int .i64 x.loops] 104 (0,0)) by rw[HW4];exact blk_new _ _ _);have H4:=Zh (H3.out.stay hf);have B4:=Zh (Zb B3.out hf (non _));have D4:=Zh (D3.out.fr hf fun _ _=>non _);have F4:=Zh (F3.out.trans hf);clear hf;go_upto_region 4 with fail;rw[←HW4];clear HW4;obtain⟨v,hv⟩:∃v,Ex.sv a.g (exAt s.ex 1)=v:=⟨_,rfl⟩;rw[hv];have HV:=Zh hv;clear hv;obtain⟨xs,hxs⟩:∃v,x.sec=v:=⟨_,rfl⟩;have y1:W4.cell? ⟨_,1,none⟩=some (.bool x.sec):=(Zc X4.out).1 1 _ rfl;rw[hxs] at y1;have HXS:=Zh hxs;clear hxs;cases xs<;>cases v;all_goals
     go_wp2_with fail;refine(eclear_any base b _ ru F W4 a bk _ H4.out).mono ?_;rintro r wq ⟨he,rfl⟩;generalize hc:chk ru 2 _=cc at he;have HC:=Zh hc;clear hc;cases cc
     ·obtain rfl:=he.f;clear he;go_wp2_with fail;exact⟨rfl,stE_no HS.out (by rw[Ev.putOk,HX.out,Q1.out,Q2.out,Q3.out,HV.out,HXS.out];exact HC.out) F4.out⟩
     ·obtain rfl:=he.t;clear he;go_wp2_with fail
      go_end0
      exact stE_yes HS.out (by rw[Ev.putOk,HX.out,Q1.out,Q2.out,Q3.out,HV.out,HXS.out];exact HC.out) F4.out.non H4.out (.inl rfl)
theorem eopen_any (base b:Nat) (ok:Nat→Prop) (PA:Option Addr) (pc:Nat) (P:List Fu) (F:Nat) (ru:Int) (s:St) (d:Nat) (A1 A2 A3 A4:Option Addr) (c1 c2 c3 c4:Nat) (w:World) (a:Ev) (bk:Nat) (hk:s.kind.toNat=10) (hok:St.ok s d=true) (hrd:StRd ok w s A1 A2 A3 A4 c1 c2 c3 c4) (h:EvAt base b (.slice PA P.length pc) ru F w a bk):
  Calls Tryz.prog 96 #[.pointer (some ⟨b,0,none⟩),stV s A1 A2 A3 A4 c1 c2 c3 c4] w (StE base b (.slice PA P.length pc) ru F w bk (evStmt ru P F s a)):=by
 have FF:=form_facts (sc_form s d hok);have hlen:=(FF.other (by omega)).2.1;have HS:=Zh (evs_10 ru P F s a hk);have hx0:0<s.ex.length:=by simp[nEx,hk] at hlen;omega
 have HEM0:=Zh (exs_all FF.exs hx0);obtain⟨xb,xo,_,_,rfl,_⟩:=ex_cells hrd.ex.2.2 0 hx0;have hl1:s.ex.length≤140737488355328:=by have:=hrd.ex.2.1;unfold reach at this;omega
 clear FF hlen hok;obtain⟨W0,HW0⟩:∃W0,W0=w.alloc (.cells #[vu8 s.kind,.string s.name,.string s.frm,.bool s.sec,.bool s.mt,.slice (some ⟨xb,xo,none⟩) s.ex.length c1,.slice A2 s.args.length c2,.slice A3 s.body.length c3,.slice A4 s.els.length c4] 42):=⟨_,rfl⟩;have hf0:Fr Non w W0:=by rw[HW0];exact(Zf w).alloc _
 have B0:=Zh (show W0.heap[w.heap.size]? =some (.cells #[vu8 s.kind,.string s.name,.string s.frm,.bool s.sec,.bool s.mt,.slice (some ⟨xb,xo,none⟩) s.ex.length c1,.slice A2 s.args.length c2,.slice A3 s.body.length c3,.slice A4 s.els.length c4] 42 (0,0)) by rw[HW0];exact blk_new _ _ _);have H0:=Zh (h.stay hf0);have D0:=Zh (hrd.fr hf0 fun _ _=>non _);have F0:=Zh hf0;have hwb:=(h.lt b (.inl rfl)).2;have hwk:=(h.lt bk (.inr rfl)).2;clear h hrd hf0;go_enter Tryz.func96,Tryz.ntmps96;go_upto_region 1 with fail;rw[←HW0];clear HW0;have s5:=(Zc B0.out).1 5 _ rfl;obtain⟨xb',xo',xA,xc,xe,x0,x1,x2,x3,x4,xr⟩:=ex_cells D0.out.ex.2.2 0 hx0;obtain⟨rfl,rfl⟩:xb=xb'∧xo=xo':=by cases xe;exact⟨rfl,rfl⟩
 clear xe;simp only[Nat.zero_mul,Nat.one_mul,Nat.add_zero] at x0 x1 x2 x3 x4;go_wp2_with fail;refine(esecx_any (exAt s.ex 0) ok xA xc base b _ ru F W0 a bk HEM0.out xr H0.out).mono ?_;rintro r w1 ⟨he,hf⟩;clear s5 x0 x1 x2 x3 x4;have H1:=Zh (H0.out.stay hf);have B1:=Zh (Zb B0.out hf (non _));have D1:=Zh (D0.out.fr hf fun _ _=>non _);have F1:=Zh (F0.out.trans hf);clear hf xr;cases hq:Ex.so ru a.g (exAt s.ex 0) with
 |false=>
  rw[hq] at he;obtain rfl:=he.f;clear he;have Q1:=Zh hq;clear hq;go_wp2_with fail;exact⟨rfl,stE_no HS.out (Q1.out) F1.out⟩
 |true=>
  rw[hq] at he;obtain rfl:=he.t;clear he;have Q1:=Zh hq;clear hq;have s1:=(Zc B1.out).1 1 _ rfl;go_wp2_with fail;refine(egive_any base b _ ru F w1 a bk s.name Nm.zero H1.out).mono ?_;rintro r wz ⟨rfl,hf,h⟩;clear s1;have HZ:=Zh h;have FZ:=Zh (F1.out.non.trans (hf.mono (T:=ES b bk) fun _ _ h=>.inr h));clear h hf;go_wp2_with fail
  go_end0
  exact stE_yes HS.out (Q1.out) FZ.out HZ.out (.inl rfl)
theorem emove_any (base b:Nat) (ok:Nat→Prop) (PA:Option Addr) (pc:Nat) (P:List Fu) (F:Nat) (ru:Int) (s:St) (d:Nat) (A1 A2 A3 A4:Option Addr) (c1 c2 c3 c4:Nat) (w:World) (a:Ev) (bk:Nat) (hk:s.kind.toNat=9) (hok:St.ok s d=true) (hrd:StRd ok w s A1 A2 A3 A4 c1 c2 c3 c4) (h:EvAt base b (.slice PA P.length pc) ru F w a bk):
  Calls Tryz.prog 95 #[.pointer (some ⟨b,0,none⟩),stV s A1 A2 A3 A4 c1 c2 c3 c4] w (StE base b (.slice PA P.length pc) ru F w bk (evStmt ru P F s a)):=by
 have FF:=form_facts (sc_form s d hok);have hlen:=(FF.other (by omega)).2.1;have HS:=Zh (evs_9 ru P F s a hk);clear FF hlen hok;obtain⟨W0,HW0⟩:∃W0,W0=w.alloc (.cells #[vu8 s.kind,.string s.name,.string s.frm,.bool s.sec,.bool s.mt,.slice A1 s.ex.length c1,.slice A2 s.args.length c2,.slice A3 s.body.length c3,.slice A4 s.els.length c4] 42):=⟨_,rfl⟩;have hf0:Fr Non w W0:=by rw[HW0];exact(Zf w).alloc _
 have B0:=Zh (show W0.heap[w.heap.size]? =some (.cells #[vu8 s.kind,.string s.name,.string s.frm,.bool s.sec,.bool s.mt,.slice A1 s.ex.length c1,.slice A2 s.args.length c2,.slice A3 s.body.length c3,.slice A4 s.els.length c4] 42 (0,0)) by rw[HW0];exact blk_new _ _ _);have H0:=Zh (h.stay hf0);have D0:=Zh (hrd.fr hf0 fun _ _=>non _);have F0:=Zh hf0;have hwb:=(h.lt b (.inl rfl)).2;have hwk:=(h.lt bk (.inr rfl)).2;clear h hrd hf0;go_enter Tryz.func95,Tryz.ntmps95;go_upto_region 1 with fail;rw[←HW0];clear HW0;have s2:=(Zc B0.out).1 2 _ rfl;go_wp2_with fail;refine(ebuf_any base b _ ru F W0 a bk s.frm H0.out).mono ?_;rintro r w1 ⟨he,hf⟩;clear s2;have H1:=Zh (H0.out.stay hf);have B1:=Zh (Zb B0.out hf (non _));have D1:=Zh (D0.out.fr hf fun _ _=>non _);have F1:=Zh (F0.out.trans hf);clear hf;obtain⟨x,hx⟩:∃x,a.g s.frm=x:=⟨_,rfl⟩;rw[hx] at he;have HX:=Zh hx;clear hx;cases hq:x.bufOk ru with
 |false=>
  rw[hq] at he;obtain rfl:=he.f;clear he;have Q1:=Zh hq;clear hq;go_wp2_with fail;exact⟨rfl,stE_no HS.out (by rw[Ev.moveOk,HX.out,Q1.out];rfl) F1.out⟩
 |true=>
  rw[hq] at he;obtain rfl:=he.t;clear he;have Q1:=Zh hq;clear hq;have hzx:w.heap.size≤w1.heap.size:=F1.out.size;obtain⟨W2,HW2⟩:∃W,W=w1.alloc (.cells #[.bool x.buf,.bool x.sec,.bool x.mt,.bool x.own,.bool x.set,.bool x.gone,.int .i64 x.lent,.int .i64 x.loops] 104):=⟨_,rfl⟩;have hf:Fr Non w1 W2:=by rw[HW2];exact(Zf _).alloc _
  have X2:=Zh (show W2.heap[w1.heap.size]? =some (.cells #[.bool x.buf,.bool x.sec,.bool x.mt,.bool x.own,.bool x.set,.bool x.gone,.int .i64 x.lent,.int .i64 x.loops] 104 (0,0)) by rw[HW2];exact blk_new _ _ _);have H2:=Zh (H1.out.stay hf);have B2:=Zh (Zb B1.out hf (non _));have D2:=Zh (D1.out.fr hf fun _ _=>non _);have F2:=Zh (F1.out.trans hf);clear hf;go_upto_region 2 with fail;rw[←HW2];clear HW2;rw[HX.out] at HS;have y3:=(Zc X2.out).1 3 _ rfl;go_wp2_with fail;refine(ekind_any base b _ ru F W2 a bk x.own H2.out).mono ?_;rintro r w3 ⟨he,rfl⟩;clear y3;cases hq:chk ru 1 x.own with
  |false=>
   rw[hq] at he;obtain rfl:=he.f;clear he;have Q2:=Zh hq;clear hq;go_wp2_with fail;exact⟨rfl,stE_no HS.out (by rw[Ev.moveOk,HX.out,Q1.out,Q2.out];rfl) F2.out⟩
  |true=>
   rw[hq] at he;obtain rfl:=he.t;clear he;have Q2:=Zh hq;clear hq;have y6:=(Zc X2.out).1 6 _ rfl;go_wp2_with fail;refine(efree_any base b _ ru F W2 a bk (x.lent==0) H2.out).mono ?_;rintro r w3 ⟨he,rfl⟩;clear y6;cases hq:chk ru 3 (x.lent==0) with
   |false=>
    rw[hq] at he;obtain rfl:=he.f;clear he;have Q3:=Zh hq;clear hq;go_wp2_with fail;exact⟨rfl,stE_no HS.out (by rw[Ev.moveOk,HX.out,Q1.out,Q2.out,Q3.out];rfl) F2.out⟩
   |true=>
    rw[hq] at he;obtain rfl:=he.t;clear he;have Q3:=Zh hq;clear hq;have y7:=(Zc X2.out).1 7 _ rfl;have h4:=(Zc H2.out.blk).1 4 _ rfl;go_upto_region 4 with fail
    go_still_tail 8,(by kernel_rfl)
    change wpList _ _ _ _ _ W2.drew
    have hd:=(Zf W2).drew;clear y7 h4;have H3:=Zh (H2.out.stay hd);have B3:=Zh (Zb B2.out hd (non _));have D3:=Zh (D2.out.fr hd fun _ _=>non _);have F3:=Zh (F2.out.trans hd);have X3:=Zh (Zb X2.out hd (non _));clear hd;obtain⟨wd,hwd⟩:∃wd,wd=W2.drew:=⟨_,rfl⟩;rw[←hwd] at H3 B3 D3 F3 X3 ⊢;clear hwd;go_wp2_with fail;refine(ethere_any base b _ ru F wd a bk (x.loops==a.loops) H3.out).mono ?_;rintro r w4 ⟨he,rfl⟩;cases hq:chk ru 4 (x.loops==a.loops) with
    |false=>
     rw[hq] at he;obtain rfl:=he.f;clear he;have Q4:=Zh hq;clear hq;go_wp2_with fail;exact⟨rfl,stE_no HS.out (by rw[Ev.moveOk,HX.out,Q1.out,Q2.out,Q3.out,Q4.out];rfl) F3.out⟩
    |true=>
     rw[hq] at he;obtain rfl:=he.t;clear he;have Q4:=Zh hq;clear hq;have y0:=(Zc X3.out).1 0 _ rfl;have y1:=(Zc X3.out).1 1 _ rfl;have y2:=(Zc X3.out).1 2 _ rfl;have y3:=(Zc X3.out).1 3 _ rfl;have y4:=(Zc X3.out).1 4 _ rfl;have y5:=(Zc X3.out).1 5 _ rfl;have y6:=(Zc X3.out).1 6 _ rfl;have y7:=(Zc X3.out).1 7 _ rfl;go_upto_region 6 with fail;have hz:w.heap.size<wd.heap.size:=blk_lt B3.out;have hz1:b<wd.heap.size:=blk_lt H3.out.blk;have hz2:bk<wd.heap.size:=H3.out.nm.lt;obtain⟨W4,HW4⟩:∃W,W=wd.alloc (.cells #[.bool x.buf,.bool x.sec,.bool x.mt,.bool x.own,.bool x.set,.bool x.gone,.int .i64 x.lent,.int .i64 x.loops] 104):=⟨_,rfl⟩;have hf:Fr Non wd W4:=by rw[HW4];exact(Zf _).alloc _
     have Y4:=Zh (show W4.heap[wd.heap.size]? =some (.cells #[.bool x.buf,.bool x.sec,.bool x.mt,.bool x.own,.bool x.set,.bool x.gone,.int .i64 x.lent,.int .i64 x.loops] 104 (0,0)) by rw[HW4];exact blk_new _ _ _);rw[←HW4];clear HW4;clear y0 y1 y2 y3 y4 y5 y6 y7;have H4:=Zh (H3.out.stay hf);have B4:=Zh (Zb B3.out hf (non _));have D4:=Zh (D3.out.fr hf fun _ _=>non _);have F4:=Zh (F3.out.trans hf);have X4:=Zh (Zb X3.out hf (non _));clear hf;have y5:=(Zc Y4.out).1 5 _ rfl;have yf:=(Zc Y4.out).2;have hf:Fr (fun q=>q=wd.heap.size) W4 (W4.setCell ⟨wd.heap.size,5,none⟩ (.bool true)):=(Fr.refl _ _).setCell _ _ (.inl rfl);have Yn:=Zh (show(W4.setCell ⟨wd.heap.size,5,none⟩ (.bool true)).heap[wd.heap.size]? =some (.cells #[.bool x.buf,.bool x.sec,.bool x.mt,.bool x.own,.bool x.set,.bool true,.int .i64 x.lent,.int .i64 x.loops] 104 (0,0)) from blk_set Y4.out 5 _);have Hn:=Zh (H4.out.fr hf (fun k hk e=>by have e:k=wd.heap.size:=e;rcases hk with rfl|rfl<;>omega));have Bn:=Zh (Zb B4.out hf (by omega));have Xn:=Zh (Zb X4.out hf (by have:=blk_lt X3.out;show¬_=wd.heap.size;omega));have Fn:=Zh (F4.out.then hf (T:=fun q=>q=wd.heap.size) (S:=Non) fun k hk e=>by have e:k=wd.heap.size:=e;omega);go_upto_region 7 with fail;generalize W4.setCell ⟨wd.heap.size,5,none⟩ (.bool true)=Wn at*;clear y5 yf hf;have s2:=(Zc Bn.out).1 2 _ rfl;have h5:=(Zc Hn.out.blk).1 5 _ rfl;have y0:=(Zc Yn.out).1 0 _ rfl;have y1:=(Zc Yn.out).1 1 _ rfl;have y2:=(Zc Yn.out).1 2 _ rfl;have y3:=(Zc Yn.out).1 3 _ rfl;have y4:=(Zc Yn.out).1 4 _ rfl;have y5:=(Zc Yn.out).1 5 _ rfl;have y6:=(Zc Yn.out).1 6 _ rfl;have y7:=(Zc Yn.out).1 7 _ rfl;obtain⟨wu,hr,hu,hfu⟩:=(Hn.out.stay (Zf Wn).drew).upd s.frm ({x with gone:=true}:Nm);have hzn:wd.heap.size<Wn.heap.size:=blk_lt Yn.out;have HU:=Zh hu;clear hu;have FU:=Zh (Fn.out.non.trans ((Zf Wn).drew.non.trans hfu));have BU:=Zh (Zb (Zb Bn.out (Zf Wn).drew (non _)) hfu (by rintro(e|e)<;>omega));have XU:=Zh (Zb (Zb Xn.out (Zf Wn).drew (non _)) hfu (by rintro(e|e)<;>omega));clear hfu
     go_still_tail 7,(by kernel_rfl)
     change wpList _ _ _ _ _ Wn.drew
     go_upto_region 8 with fail;clear hr s2 h5 y0 y1 y2 y3 y4 y5 y6 y7;have s1:=(Zc BU.out).1 1 _ rfl;have y1:=(Zc XU.out).1 1 _ rfl;go_wp2_with fail;refine(egive_any base b _ ru F wu (a.put s.frm {x with gone:=true}) bk s.name (Nm.bufv x.sec true true) HU.out).mono ?_;rintro r wz ⟨rfl,hf,h⟩;have HZ:=Zh h;have FZ:=Zh (FU.out.trans (hf.mono (T:=ES b bk) fun _ _ h=>.inr h));clear h hf s1 y1;go_wp2_with fail
     go_end0
     exact stE_yes HS.out (by rw[Ev.moveOk,HX.out,Q1.out,Q2.out,Q3.out,Q4.out];rfl) FZ.out HZ.out (.inl rfl)
theorem nvs_mem {l:NL} {s:ByteArray} {v:Value} (h:(s,v)∈nvs l):∃x,(s,x)∈l∧v=x.v:=by
 obtain⟨p,hp,e⟩:=List.mem_map.1 h;simp only[Prod.mk.injEq] at e;obtain⟨rfl,rfl⟩:=e;exact⟨p.2,hp,rfl⟩
theorem nvs_nodup {w:World} {b:Nat} {l:NL} (h:MapS w b (nvs l)):(l.map (·.1)).Nodup:=by
 obtain⟨es,clock,_,h2,h3⟩:=h;have:=lkeys_nodup h2 h3;rw[nvs,List.map_map] at this;exact this
def SealOn (ru:Int) (a:Ev) (todo:ByteArray→Bool):Prop:=∀p∈a.nm,todo p.1=false→chk ru 2 (p.2.buf|| !p.2.sec)=true
theorem eseal_any (base b:Nat) (ok:Nat→Prop) (PA:Option Addr) (pc:Nat) (P:List Fu) (F:Nat) (ru:Int) (s:St) (A1 A2 A3 A4:Option Addr) (c1 c2 c3 c4:Nat) (w:World) (a:Ev) (bk:Nat) (hk:11<s.kind.toNat) (h:EvAt base b (.slice PA P.length pc) ru F w a bk) (hF:F<P.length) (hPl:P.length≤140737488355328):
  Calls Tryz.prog 98 #[.pointer (some ⟨b,0,none⟩),stV s A1 A2 A3 A4 c1 c2 c3 c4] w (StE base b (.slice PA P.length pc) ru F w bk (evStmt ru P F s a)):=by
 have HS:=Zh (evs_12 ru P F s a hk);have HSO:=Zh (show a.sealOk ru P F=(chk ru 1 (F+1==P.length)&&a.nm.all fun p=>chk ru 2 (p.2.buf|| !p.2.sec)) from rfl);have HND:=Zh (nvs_nodup h.nm);clear hk;obtain⟨W0,HW0⟩:∃W0,W0=w.alloc (.cells #[vu8 s.kind,.string s.name,.string s.frm,.bool s.sec,.bool s.mt,.slice A1 s.ex.length c1,.slice A2 s.args.length c2,.slice A3 s.body.length c3,.slice A4 s.els.length c4] 42):=⟨_,rfl⟩;have hf0:Fr Non w W0:=by rw[HW0];exact(Zf w).alloc _
 have H0:=Zh (h.stay hf0);have F0:=Zh hf0;have hwb:=(h.lt b (.inl rfl)).2;have hwk:=(h.lt bk (.inr rfl)).2;have hz0:w.heap.size≤W0.heap.size:=hf0.size;clear h hf0;have b0:=(Zc H0.out.blk).1 0 _ rfl;have b2:=(Zc H0.out.blk).1 2 _ rfl;have bq:((F:Int)==(P.length:Int)-1)=(F+1==P.length):=by rw[Bool.eq_iff_iff];simp;omega
 go_enter Tryz.func98,Tryz.ntmps98;go_upto_region 1 with fail;rw[←HW0];clear HW0
 go_still_tail 13,(by kernel_rfl)
 change wpList _ _ _ _ _ W0.drew
 have hd:=(Zf W0).drew;obtain⟨wd,hwd⟩:∃wd,wd=W0.drew:=⟨_,rfl⟩;rw[←hwd] at hd ⊢;clear hwd;have H1:=Zh (H0.out.stay hd);have F1:=Zh (F0.out.trans hd);clear hd;go_wp2_with fail;rw[bq];refine(ekind_any base b _ ru F wd a bk (F+1==P.length) H1.out).mono ?_;rintro r w2 ⟨he,rfl⟩;clear b0 b2 bq;cases hq:chk ru 1 (F+1==P.length) with
 |false=>
  rw[hq] at he;obtain rfl:=he.f;clear he;have Q1:=Zh hq;clear hq;go_wp2_with fail;exact⟨rfl,stE_no HS.out (by rw[HSO.out,Q1.out];rfl) F1.out⟩
 |true=>
  rw[hq] at he;obtain rfl:=he.t;clear he;have Q1:=Zh hq;clear hq;have b5:=(Zc H1.out.blk).1 5 _ rfl;obtain⟨w3,hrg,hmi,hf3⟩:=MapS.range (P:=Tryz.prog) H1.out.nm undNm;obtain⟨rb,hrb⟩:∃rb,rb=wd.heap.size:=⟨_,rfl⟩;rw[←hrb] at hrg hmi;have hzr:w.heap.size≤rb:=by rw[hrb];exact F1.out.size
  have HRB:=Zh hrb;clear hrb;have HMI:=Zh hmi;clear hmi;have H3:=Zh (H1.out.stay hf3);have F3:=Zh (F1.out.trans hf3);clear hf3;go_wp2_with fail;clear hrg b5
  go_loopw [] (fun wr=>∃todo,MapI wr rb bk (nvs a.nm) todo∧SealOn ru a todo∧Fr (fun k=>k=rb) w3 wr) (fun wr=>wr.rangeLeft bk rb)
  case atStart=>exact⟨_,HMI.out,(by intro p _ h;cases h),Fr.refl _ _⟩
  case round=>
   obtain⟨todo,hmi,hon,hfr⟩:=hrel;have HON:=Zh hon;clear hon;have HR:=Zh (H3.out.fr hfr (fun k hk e=>by have e:k=rb:=e;rcases hk with rfl|rfl<;>omega));have FR:=Zh (F3.out.then hfr (S:=Non) fun k hk e=>by have e:k=rb:=e;omega);have HFR:=Zh hfr;clear hfr;rcases hmi.next (P:=Tryz.prog) with⟨hall,hnx⟩|⟨s1,v1,w4,hin,htd,hnx,hmi4,hen,hf4,hlt⟩
   ·have HALL:=Zh hall;clear hall;have HMI2:=Zh hmi;clear hmi;go_wp2_with fail
    go_end0
    refine stE_yes HS.out ?_ FR.out.non HR.out (.inl rfl);rw[HSO.out,Q1.out,Bool.true_and,List.all_eq_true];intro p hp;exact HON.out p hp (HALL.out (p.1,p.2.v) (List.mem_map.2 ⟨p,hp,rfl⟩))
   ·obtain⟨x,hx,rfl⟩:=nvs_mem hin;have HX:=Zh hx;clear hx hin;have HMI4:=Zh hmi4;clear hmi4 hmi;have HLT:=Zh hlt;clear hlt;have HFR4:=Zh (HFR.out.trans hf4);have H4:=Zh (HR.out.fr hf4 (fun k hk e=>by have e:k=rb:=e;rcases hk with rfl|rfl<;>omega));have F4:=Zh (FR.out.then hf4 (S:=Non) fun k hk e=>by have e:k=rb:=e;omega);clear hf4 htd;obtain⟨xb,hxb⟩:∃v,x.buf=v:=⟨_,rfl⟩;obtain⟨xs,hxs⟩:∃v,x.sec=v:=⟨_,rfl⟩;unfold Nm.v at hnx hen;rw[hxb,hxs] at hnx hen;have HXB:=Zh hxb;clear hxb;have HXS:=Zh hxs;clear hxs;cases xb<;>cases xs;all_goals
     go_wp2_with fail;refine(eclear_any base b _ ru F _ a bk _ (H4.out.stay ((Zf _).alloc _))).mono ?_;rintro r w5 ⟨he,rfl⟩;generalize hc:chk ru 2 _=cc at he;have HC:=Zh hc;clear hc;cases cc
     ·obtain rfl:=he.f;clear he;go_wp2_with fail;refine⟨rfl,stE_no HS.out ?_ (F4.out.trans ((Zf _).alloc _))⟩;rw[HSO.out,Q1.out,Bool.true_and,List.all_eq_false];exact⟨_,HX.out,by show¬chk ru 2 (x.buf|| !x.sec)=true;rw[HXB.out,HXS.out];exact fun h9=>Bool.noConfusion (HC.out.symm.trans h9)⟩
     ·obtain rfl:=he.t;clear he;go_wp2_with fail;go_roundw
      case rel=>
       refine⟨_,HMI4.out.fr ((Zf _).alloc _) (non _) (non _),?_,(HFR4.out.trans ((Zf _).alloc _).non)⟩;intro p hp hs;cases ht:todo p.1 with
       |false=>exact HON.out p hp ht
       |true=>
        rw[strikeS,ht,Bool.true_and] at hs;have e:p.1=s1:=sq_iff.1 (by simpa using hs);have e2:=nodup_inj HND.out hp HX.out e;rw[e2];show chk ru 2 (x.buf|| !x.sec)=true
        rw[HXB.out,HXS.out];exact HC.out
      case measure=>
       have:=HLT.out;rw[left_alloc HMI4.out];exact this
theorem es_then {b bk bk1:Nat} {w w1 w2:World} (hf:Fr (ES b bk) w w1) (hb:bk1=bk∨w.heap.size≤bk1) (hg:Fr (ES b bk1) w1 w2):Fr (ES b bk) w w2:=
 hf.then hg fun k hk h=>by
  rcases h with rfl|rfl
  ·exact .inl rfl
  ·rcases hb with rfl|hb
   ·exact .inr rfl
   ·omega
theorem EvAt.setn {base b:Nat} {PV:Value} {ru:Int} {F:Nat} {w:World} {a:Ev} {bk:Nat} (h:EvAt base b PV ru F w a bk) (m:Int):EvAt base b PV ru F (w.setCell ⟨b,3,none⟩ (.int .i64 m)) ⟨a.nm,m,a.loops⟩ bk:=by
 have hf:Fr (fun k=>k=b) w (w.setCell ⟨b,3,none⟩ (.int .i64 m)):=(Fr.refl (fun k=>k=b) w).setCell _ _ (.inl rfl);exact⟨blk_set h.blk 3 _,h.nm.fr hf h.ne,h.hb,h.hk⟩
theorem EvAt.setl {base b:Nat} {PV:Value} {ru:Int} {F:Nat} {w:World} {a:Ev} {bk:Nat} (h:EvAt base b PV ru F w a bk) (m:Int):EvAt base b PV ru F (w.setCell ⟨b,4,none⟩ (.int .i64 m)) (a.at m) bk:=by
 have hf:Fr (fun k=>k=b) w (w.setCell ⟨b,4,none⟩ (.int .i64 m)):=(Fr.refl (fun k=>k=b) w).setCell _ _ (.inl rfl);exact⟨blk_set h.blk 4 _,h.nm.fr hf h.ne,h.hb,h.hk⟩
theorem stE_err {base b:Nat} {PV:Value} {ru:Int} {F:Nat} {w w':World} {bk:Nat} {R:Er Ev} {n:Int} (hR:R= .error n) (hf:Fr (ES b bk) w w'):StE base b PV ru F w bk R (.panicked [{v:=faultV n (codeOf ru),recovered:=false}]) w':=by
 subst hR;exact⟨rfl,hf⟩
def BlOn (base b bk:Nat) (PV:Value) (ru:Int) (P:List Fu) (F:Nat) (l:List St) (a:Ev) (w1:World) (k:Nat) (wr:World):Prop:=
 ∃ak bkk,evStmts ru P F (l.take k) a= .ok ak∧EvAt base b PV ru F wr ak bkk∧Fr (ES b bk) w1 wr∧(bkk=bk∨w1.heap.size≤bkk)
theorem ests_err {ru:Int} {P:List Fu} {F:Nat} {l:List St} {a ak:Ev} {k:Nat} (hlt:k<l.length) (h1:evStmts ru P F (l.take k) a= .ok ak) {n:Int} (h2:evStmt ru P F l[k] ak.next= .error n):evStmts ru P F l a= .error n:=by
 have h3:evStmts ru P F (l.take (k+1)) a= .error n:=by
  rw[List.take_succ_eq_append_getElem hlt,evStmts_snoc,h1];exact h2
 have h4:=evStmts_err ru P F (l.drop (k+1)) n _ _ h3
 rwa [List.take_append_drop] at h4
theorem ests_ok {ru:Int} {P:List Fu} {F:Nat} {l:List St} {a ak a2:Ev} {k:Nat} (hlt:k<l.length) (h1:evStmts ru P F (l.take k) a= .ok ak) (h2:evStmt ru P F l[k] ak.next= .ok a2):evStmts ru P F (l.take (k+1)) a= .ok a2:=by
 rw[List.take_succ_eq_append_getElem hlt,evStmts_snoc,h1];exact h2
def keepT (l m:NL) (todo:ByteArray→Bool):NL:=l.filter fun p=>todo p.1||nhas m p.1
theorem keepT_in {l m:NL} {todo:ByteArray→Bool} {s:ByteArray} (h:nhas m s=true):keepT l m (strikeS todo s)=keepT l m todo:=by
 unfold keepT;apply List.filter_congr;intro p _;cases hs:sq p.1 s with
 |true=>rw[sq_iff.1 hs,h,Bool.or_true,Bool.or_true]
 |false=>simp[strikeS,hs]
theorem keepT_out {l m:NL} {todo:ByteArray→Bool} {s:ByteArray} (h:nhas m s=false):ndel (keepT l m todo) s=keepT l m (strikeS todo s):=by
 unfold keepT ndel;rw[List.filter_filter];apply List.filter_congr;intro p _;cases hs:sq p.1 s with
 |true=>rw[sq_iff.1 hs,h];simp[strikeS,sq_refl]
 |false=>simp[strikeS,hs]
theorem keepT_end {l m:NL} {todo:ByteArray→Bool} (h:∀p∈nvs (keepT l m todo),todo p.1=false):keepT l m todo=nkeep l m:=by
 have h':∀p∈keepT l m todo,todo p.1=false:=fun p hp=>h (p.1,p.2.v) (List.mem_map.2 ⟨p,hp,rfl⟩);unfold keepT nkeep at*;apply List.filter_congr;intro p hp;cases ht:todo p.1 with
 |false=>rfl
 |true=>
  have:=h' p (List.mem_filter.2 ⟨hp,by rw[ht];rfl⟩);rw[ht] at this;cases this
theorem keepT_all (l m:NL):keepT l m (fun _=>true)=l:=by
 unfold keepT;rw[List.filter_eq_self];intro p _;rfl
def BlDel (b bkk rb:Nat) (ak a:Ev) (w5 wz:World):Prop:=∃todo,MapI wz rb bkk (nvs (keepT ak.nm a.nm todo)) todo∧Fr (fun k=>k=rb∨k=bkk) w5 wz
theorem eblock_of (base b:Nat) (ok:Nat→Prop) (PA:Option Addr) (pc:Nat) (P:List Fu) (F:Nat) (ru:Int) (N:Nat) (ST:EStC base b ok PA pc P F ru N):EBlC base b ok PA pc P F ru N:=by
 intro l d A c w a bk hN hok hr hc hn0 hn1 hl0 hl1 h hP;have hlen:l.length≤140737488355328:=by unfold reach at hc;omega
 have hwb:=(h.lt b (.inl rfl)).2;have hwk:=(h.lt bk (.inr rfl)).2;have hoks:∀q,ok q→¬ES b bk q:=fun q hq hs=>by have h1:=hP.hok q hq;have h2:=(h.lt q hs).1;omega
 have HOKS:=Zh hoks;clear hoks;have HCL:=Zh (eclone_any bk (nvs a.nm) w h.nm);have b5:=(Zc h.blk).1 5 _ rfl;have HH:=Zh h;clear h;have HR:=Zh hr;clear hr;have HP:=Zh hP;clear hP;have HOK:=Zh hok;clear hok;have HN:=Zh hN;clear hN;have HN1:=Zh hn1;clear hn1;go_enter Tryz.func130,Tryz.ntmps130;go_wp2_with fail;refine HCL.out.mono ?_;rintro e w1 ⟨rfl,hm1,hf1⟩;have H1:=Zh (HH.out.stay hf1);have HM1:=Zh hm1;clear hm1;have F1:=Zh hf1;have hz1:w.heap.size<w1.heap.size:=HM1.out.lt;clear hf1 b5;obtain⟨bm,hbm⟩:∃bm,bm=w.heap.size:=⟨_,rfl⟩;rw[←hbm] at HM1 hz1 ⊢;have hbm1:b<bm:=by omega
 have hbm2:bk<bm:=by omega
 have hbm3:w.heap.size≤bm:=by omega
 clear hbm;go_wp2_with fail
 go_loopw [17] (fun i wr=>∃k:Nat,i= .int .i64 k∧k≤l.length∧BlOn base b bk (.slice PA P.length pc) ru P F l a w1 k wr) (fun i _=>l.length-(intOf i).toNat)
 case atStart=>exact⟨0,rfl,by omega,a,bk,rfl,H1.out,Fr.refl _ _,.inl rfl⟩
 case round=>
  obtain⟨k,rfl,hk,ak,bkk,hev,hat,hfr,hbk⟩:=hrel;have HEV:=Zh hev;have hnk:=evStmts_n ru P F _ a ak hev;clear hev;have hsz1:=sizes_take_le l k;have FR:=Zh (F1.out.non.trans hfr);have HF:=Zh hfr;clear hfr;have HB:=Zh hbk;clear hbk;have hzr:w1.heap.size≤wr.heap.size:=HF.out.size;by_cases hlt:k<l.length
  ·obtain⟨g,o,A1,c1,A2,c2,A3,c3,A4,c4,rfl,hd,e0,e1,e2,e3,e4,e5,e6,e7,e8,r1,r2,r3,r4⟩:=at_st (HR.out.fr FR.out HOKS.out (fun _ h=>h)) k hlt;have HSR:=Zh (⟨r1,r2,r3,r4⟩:StRd ok wr l[k] A1 A2 A3 A4 c1 c2 c3 c4);clear r1 r2 r3 r4;have hsz2:=sizes_take l k hlt;have hsz3:=sizes_take_le l (k+1);have hbn:ak.n≤1099511627776:=by have:=HN1.out;omega
   have hbn0:0≤ak.n:=by omega
   have hxok:St.ok l[k] d=true:=oks_at HOK.out k hlt;have HXE:=Zh (fun n h=>ests_err (ru:=ru) (P:=P) (F:=F) hlt HEV.out (n:=n) h);have HXO:=Zh (fun a2 h=>ests_ok (ru:=ru) (P:=P) (F:=F) hlt HEV.out (a2:=a2) h);generalize hx:l[k]=x at*;have HX:=Zh hx;clear hx;have HXOK:=Zh hxok;clear hxok;have hkd:=form_facts (sc_form x d HXOK.out);have hk1:=hkd.k1;have hk12:=hkd.k12;clear hkd;have b3:=(Zc hat.blk).1 3 _ rfl;have bf:=(Zc hat.blk).2;have hblt:=blk_lt hat.blk;obtain⟨W2,HW2⟩:∃W2,W2=(wr.setCell ⟨b,3,none⟩ (.int .i64 (ak.n+1))).alloc (.cells #[vu8 x.kind,.string x.name,.string x.frm,.bool x.sec,.bool x.mt,.slice A1 x.ex.length c1,.slice A2 x.args.length c2,.slice A3 x.body.length c3,.slice A4 x.els.length c4] 42):=⟨_,rfl⟩;have hf2:Fr (ES b bkk) wr W2:=by rw[HW2];exact((Fr.refl _ _).setCell _ _ (.inl (.inl rfl))).alloc _
   have h2:EvAt base b (.slice PA P.length pc) ru F W2 ak.next bkk:=by rw[HW2];exact(hat.setn (ak.n+1)).stay ((Zf _).alloc _)
   have HBX:=Zh (show W2.heap[wr.heap.size]? =some (.cells #[vu8 x.kind,.string x.name,.string x.frm,.bool x.sec,.bool x.mt,.slice A1 x.ex.length c1,.slice A2 x.args.length c2,.slice A3 x.body.length c3,.slice A4 x.els.length c4] 42 (0,0)) by
    rw[HW2];exact blk_new' (by simp[World.setCell]) _ _)
   have FR2:=Zh (es_then FR.out (by have:=HB.out;omega) hf2);have HF2:=Zh (es_then HF.out HB.out hf2);have hst:∀w3,Fr Non W2 w3→Calls Tryz.prog (mK x.kind) #[.pointer (some ⟨b,0,none⟩),stV x A1 A2 A3 A4 c1 c2 c3 c4] w3 (StE base b (.slice PA P.length pc) ru F w3 bkk (evStmt ru P F x ak.next)):=fun w3 hf3=>
    ST x d A1 A2 A3 A4 c1 c2 c3 c4 w3 ak.next bkk (by have:=HN.out;omega) HXOK.out (HSR.out.fr (hf2.trans hf3.non) (fun q hq hs=>by
     have h1:=HP.out.hok q hq;rcases hs with rfl|rfl
     ·have:=HH.out.hb;omega
     ·have:=hat.hk;omega)) (by show 0≤ak.n+1;omega) (by show ak.n+1+x.size≤_;have:=HN1.out;omega) (by show 0≤ak.loops;omega) (by show ak.loops≤d;omega) (h2.stay hf3) (HP.out.fr (FR2.out.trans hf3.non) HOKS.out)
   have HST:=Zh hst;clear hst;have H2:=Zh h2;clear h2;have HMK:=Zh (meth_at x.kind hk1 hk12);have hK:=ent_mK x.kind;clear hf2;go_upto_region 5 with fail;rw[←HW2];clear HW2 b3 bf hblt e0 e1 e2 e3 e4 e5 e6 e7 e8;have y0:=(Zc HBX.out).1 0 _ rfl;have y1:=(Zc HBX.out).1 1 _ rfl;have y2:=(Zc HBX.out).1 2 _ rfl;have y3:=(Zc HBX.out).1 3 _ rfl;have y4:=(Zc HBX.out).1 4 _ rfl;have y5:=(Zc HBX.out).1 5 _ rfl;have y6:=(Zc HBX.out).1 6 _ rfl;have y7:=(Zc HBX.out).1 7 _ rfl;have y8:=(Zc HBX.out).1 8 _ rfl;have hlk:∀w3 (q:Nat),MapK w3 q methL→(Instr.lookup 106 (.map (some q)) (vu8 x.kind) false).run Tryz.prog w3= .ok (.func (.func (mK x.kind)) #[] #[]) w3:=fun w3 q h=>by
    have:=(h.look undMe undU8 zeroMe (x.kind.toNat:Int)).2;rw[HMK.out] at this;exact this
   have HLK:=Zh hlk;clear hlk;cases hex:evStmt ru P F x ak.next with
   |error n=>
    rw[hex] at HST;have HE:=Zh (HXE.out n hex);clear hex
    go_region_with (first|(go_at_call 65;refine(emeth_any W2.drew).mono ?_;rintro e w3 ⟨rfl,hm3,hf3⟩;have hlk:=HLK.out w3 W2.heap.size hm3;have hz:=(Zf W2).drew.trans hf3;have z0:=hz.cell' y0 (non _);have z1:=hz.cell' y1 (non _);have z2:=hz.cell' y2 (non _);have z3:=hz.cell' y3 (non _);have z4:=hz.cell' y4 (non _);have z5:=hz.cell' y5 (non _);have z6:=hz.cell' y6 (non _);have z7:=hz.cell' y7 (non _);have z8:=hz.cell' y8 (non _))|(refine(HST.out w3 ((Zf W2).drew.trans hf3)).mono ?_;rintro e w4 ⟨rfl,hf4⟩;go_wp2_with fail;refine dead_here (w:=W2) ?_ ?_;exact⟨rfl,stE_err (by unfold evBlock;rw[HE.out];rfl) (es_then FR2.out (by have:=HB.out;omega) (((Zf W2).drew.trans hf3).non.trans hf4))⟩))
    all_goals trivial
   |ok a2=>
    rw[hex] at HST;have HE:=Zh (HXO.out a2 hex);clear hex
    go_region_with (first|(go_at_call 65;refine(emeth_any W2.drew).mono ?_;rintro e w3 ⟨rfl,hm3,hf3⟩;have hlk:=HLK.out w3 W2.heap.size hm3;have hz:=(Zf W2).drew.trans hf3;have z0:=hz.cell' y0 (non _);have z1:=hz.cell' y1 (non _);have z2:=hz.cell' y2 (non _);have z3:=hz.cell' y3 (non _);have z4:=hz.cell' y4 (non _);have z5:=hz.cell' y5 (non _);have z6:=hz.cell' y6 (non _);have z7:=hz.cell' y7 (non _);have z8:=hz.cell' y8 (non _))|(refine(HST.out w3 ((Zf W2).drew.trans hf3)).mono ?_;rintro e w4 ⟨bk4,rfl,hf4,h4,hb4⟩))
    all_goals
     have H4:=Zh h4;have HB4:=Zh hb4;have HF4:=Zh (es_then HF2.out HB.out (((Zf W2).drew.trans hf3).non.trans hf4));have hz3:wr.heap.size<W2.heap.size:=blk_lt HBX.out;have hz4:=hf3.size;have hz5:W2.heap.size≤w3.heap.size:=hz4;clear hm3 hf3 hlk hz z0 z1 z2 z3 z4 z5 z6 z7 z8 y0 y1 y2 y3 y4 y5 y6 y7 y8 h4 hb4 hf4;go_wp2_with fail;go_roundw
     case rel=>exact⟨k+1,by go_num,by omega,a2,bk4,HE.out,H4.out,HF4.out,by have:=HB.out;have:=HB4.out;omega⟩
     case measure=>simp[intOf];omega
  ·have hke:k=l.length:=by omega
   subst hke;have hev2:evStmts ru P F l a= .ok ak:=by have:=HEV.out;rwa [List.take_length] at this
   have HEV2:=Zh hev2;clear hev2;have b5:=(Zc hat.blk).1 5 _ rfl;obtain⟨w5,hrg,hmi,hf5⟩:=MapS.range (P:=Tryz.prog) hat.nm undNm;obtain⟨rb,hrb⟩:∃rb,rb=wr.heap.size:=⟨_,rfl⟩;rw[←hrb] at hrg hmi;have hbz:=blk_lt hat.blk;have hkz:=hat.nm.lt;have hrz:wr.heap.size≤rb:=by omega
   have hrb1:rb≠b:=by omega
   have hrb2:rb≠bkk:=by omega
   have hrb3:rb≠bm:=by omega
   have hne:=hat.ne;have hbk3:bm≠bkk:=by have:=HB.out;omega
   have HMM:=Zh (HM1.out.fr HF.out (by rintro(e|e)<;>omega));have HM5:=Zh (HMM.out.fr hf5 (non _));have H5:=Zh (hat.stay hf5);clear hat;have HMI:=Zh hmi;clear hmi;have F5:=Zh (FR.out.trans hf5.non);have hz5:wr.heap.size≤w5.heap.size:=hf5.size;have HRB:=Zh hrb;clear hrb hf5;go_wp2_with fail;clear hrg b5
   go_loopw [] (fun wz=>BlDel b bkk rb ak a w5 wz) (fun wz=>wz.rangeLeft bkk rb)
   case atStart=>exact⟨_,by rw[keepT_all];exact HMI.out,Fr.refl _ _⟩
   case round=>
    obtain⟨todo,hmi,hfr⟩:=hrel;have HFR:=Zh hfr;have hblk:=Zb H5.out.blk hfr (by rintro(e|e)<;>omega);have hmm:=HM5.out.fr hfr (by rintro(e|e)<;>omega);clear hfr;rcases hmi.next (P:=Tryz.prog) with⟨hall,hnx⟩|⟨s1,v1,w6,hin,htd,hnx,hmi6,hen,hf6,hlt⟩
    ·have HALL:=Zh hall;clear hall;have HMI2:=Zh hmi;clear hmi;have HBLK:=Zh hblk;clear hblk hmm;go_wp2_with fail
     go_end0
     unfold evBlock;rw[HEV2.out];refine⟨bkk,rfl,?_,⟨HBLK.out,by have:=HMI2.out.map;rw[keepT_end HALL.out] at this;exact this,H5.out.hb,H5.out.hk⟩,by have:=HB.out;omega⟩;exact F5.out.then HFR.out fun k hk h=>by
      have hs:=HRB.out;have hz:=FR.out.size;rcases h with e|e
      ·omega
      ·have:=HB.out;rcases this with rfl|hb
       ·exact .inr e
       ·omega
    ·have HIN:=Zh hin;clear hin htd;have HFR6:=Zh (HFR.out.trans (hf6.mono fun _ _ h=>.inl h));have HB6:=Zh (Zb hblk hf6 (fun e=>hrb1 e.symm));have hm6:=hmm.fr hf6 (fun e=>hrb3 e.symm);clear hblk hmm hf6 hmi;have hl6:=(hm6.look undNm undStr zeroNm s1).1;rw[mget_nvs,mhas_nvs] at hl6;have b5:=(Zc HB6.out).1 5 _ rfl;have HM6:=Zh hm6;clear hm6;have HLT:=Zh hlt;clear hlt;obtain⟨y,hy⟩:∃y,nget a.nm s1=y:=⟨_,rfl⟩;rw[hy] at hl6;clear hy;unfold Nm.v at hl6;cases hh:nhas a.nm s1 with
     |true=>
      rw[hh] at hl6;have HH1:=Zh hh;clear hh;have HMI6:=Zh hmi6;clear hmi6;go_wp2_with fail;go_roundw
      case rel=>exact⟨_,by rw[keepT_in HH1.out];exact HMI6.out.fr ((Zf _).alloc _) (non _) (non _),HFR6.out.trans ((Zf _).alloc _).non⟩
      case measure=>rw[left_alloc HMI6.out];exact HLT.out
     |false=>
      rw[hh] at hl6;have HH1:=Zh hh;clear hh;obtain⟨w7,hw7⟩:∃w7,w7=w6.alloc (.cells #[.bool y.buf,.bool y.sec,.bool y.mt,.bool y.own,.bool y.set,.bool y.gone,.int .i64 y.lent,.int .i64 y.loops] 104):=⟨_,rfl⟩;have hf7:Fr Non w6 w7:=by rw[hw7];exact(Zf _).alloc _
      have hmi7:=hmi6.fr hf7 (non _) (non _);have HLE:=Zh (hmi6.left_fr hf7 (non _) (non _));have b5':=(Zc (Zb HB6.out hf7 (non _))).1 5 _ rfl;have HF7:=Zh (HFR6.out.trans hf7.non);clear hf7 hmi6;obtain⟨w8,hdel,hmi8,hf8,hle8⟩:=hmi7.del (P:=Tryz.prog) undNm undStr s1 0 9;have HMI8:=Zh hmi8;clear hmi8;have HF8:=Zh (HF7.out.trans (hf8.mono fun _ _ h=>.inr h));clear hf8 hmi7;have HL8:=Zh hle8;clear hle8;go_upto_region 11 with fail;rw[←hw7];clear hw7 hl6 b5 hnx hen;go_wp2_with (refine wp_delete_run rfl (.tmp 56) (.tmp 57) rfl rfl rfl hdel ?_;go_frame);go_roundw
      case rel=>exact⟨_,by rw[←keepT_out HH1.out,←mdel_nvs];exact HMI8.out,HF8.out⟩
      case measure=>have h1:=HL8.out;have h2:=HLE.out;have h3:=HLT.out;omega
end Go.Proofs.YtpkpgmnbheenbaaGreatDoor
