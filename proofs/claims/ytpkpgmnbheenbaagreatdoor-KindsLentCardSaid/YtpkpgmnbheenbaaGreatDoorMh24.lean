/- Contracts and laws, Mh24 -/
import Derived.Test.YtpkpgmnbheenbaaGreatDoorMh01
import Derived.Test.YtpkpgmnbheenbaaGreatDoorMh22
import Derived.Test.YtpkpgmnbheenbaaGreatDoorMh23
import Derived.Deep.DeepCutAuto
import Derived.Deep.CutBlock
import Derived.Deep.RegionLaw
namespace Go.Proofs.YtpkpgmnbheenbaaGreatDoor
open Go.RowKit
set_option linter.unusedVariables false
set_option linter.unusedSimpArgs false
set_option maxHeartbeats 8000000
set_option maxRecDepth 100000
theorem Fr.drewM {S:Nat→Prop} {a b:World} (h:Fr S a b) (n:Nat):Fr S a (b.drewN n):=⟨h.os,h.tape,h.output,h.size,h.block⟩
theorem nEx_8 (k:UInt8):nEx k≤2:=by unfold nEx;split<;>(try split)<;>(try split)<;>omega
theorem form_len8 {k:UInt8} {nm fr:ByteArray} {sec mt:Bool} {ex:List Ex} {args:List ByteArray} {body els:List St} (h:formM (.mk k nm fr sec mt ex args body els)=true):ex.length≤8:=by
 rw[form_mk,Bool.and_eq_true] at h;obtain⟨_,hr⟩:=h;split at hr
 ·simp only[callM,Bool.and_eq_true,decide_eq_true_eq] at hr;exact hr.1.1.2
 ·simp only[restM,Bool.and_eq_true,beq_iff_eq] at hr;have:=nEx_8 k;omega
structure EB (e:EdS) (n:Nat):Prop where
 n0:0≤e.n
 n1:e.n+2*n≤100000
 k0: -100000≤e.K-n
 k1:e.K≤100000
theorem EB.le {e:EdS} {m n:Nat} (h:EB e n) (hm:m≤n):EB e m:=⟨h.n0,by have:=h.n1;omega,by have:=h.k0;omega,h.k1⟩
theorem EB.go {e e':EdS} {m n k:Nat} (h:EB e n) (r:EdR e e' m) (hk:m+k≤n):EB e' k:=⟨by have:=h.n0;have:=r.n0;omega,by have:=h.n1;have:=r.n1;omega,by have:=h.k0;have:=r.k0;omega,by have:=h.k1;have:=r.k1;omega⟩
theorem EdAt.c0 {eb:Nat} {c:EdC} {p:Pd} {w:World} {e:EdS} (h:EdAt eb c p w e):w.cell? ⟨eb,0,none⟩=some (vu8 c.kd):=(Zc h).1 0 _ rfl
theorem EdAt.c1 {eb:Nat} {c:EdC} {p:Pd} {w:World} {e:EdS} (h:EdAt eb c p w e):w.cell? ⟨eb,1,none⟩=some (.int .i64 e.K):=(Zc h).1 1 _ rfl
theorem EdAt.c11 {eb:Nat} {c:EdC} {p:Pd} {w:World} {e:EdS} (h:EdAt eb c p w e):w.cell? ⟨eb,11,none⟩=some (.bool c.inside):=(Zc h).1 11 _ rfl
theorem EdAt.c12 {eb:Nat} {c:EdC} {p:Pd} {w:World} {e:EdS} (h:EdAt eb c p w e):w.cell? ⟨eb,12,none⟩=some (.bool c.extra):=(Zc h).1 12 _ rfl
theorem EdAt.c13 {eb:Nat} {c:EdC} {p:Pd} {w:World} {e:EdS} (h:EdAt eb c p w e):w.cell? ⟨eb,13,none⟩=some (.int .i64 e.at_):=(Zc h).1 13 _ rfl
theorem EdAt.c14 {eb:Nat} {c:EdC} {p:Pd} {w:World} {e:EdS} (h:EdAt eb c p w e):w.cell? ⟨eb,14,none⟩=some (.bool e.done):=(Zc h).1 14 _ rfl
theorem EdAt.c15 {eb:Nat} {c:EdC} {p:Pd} {w:World} {e:EdS} (h:EdAt eb c p w e):w.cell? ⟨eb,15,none⟩=some (.int .i64 e.n):=(Zc h).1 15 _ rfl
theorem EdAt.fz {eb:Nat} {c:EdC} {p:Pd} {w:World} {e:EdS} (h:EdAt eb c p w e):∀i,w.frozen? ⟨eb,i,none⟩=false:=(Zc h).2
theorem EdAt.fr {eb:Nat} {c:EdC} {p:Pd} {w w':World} {e:EdS} {S:Nat→Prop} (h:EdAt eb c p w e) (hf:Fr S w w') (hs:¬S eb):EdAt eb c p w' e:=Zb h hf hs
def okL (ok:Nat→Prop) (lo:Nat) (w:World) (k:Nat):Prop:=ok k∨(lo≤k∧k<w.heap.size)
theorem stmts_any (c:EdC) (hni:c.inside=false) (p:Pd) (eb:Nat) (N:Nat):∀(l:List St) (d:Nat) (e:EdS) (ok:Nat→Prop) (A:Option Addr) (cc:Nat) (w:World),St.oks l d=true→St.sizes l≤N→St.sizes l≤2000→EB e (St.sizes l)→(∀k,ok k→k<w.heap.size∧k≠eb)→EdAt eb c p w e→
  StRd ok w c.put p.B1 p.B2 p.B3 p.B4 p.d1 p.d2 p.d3 p.d4→RdRows ok w 9 A 0 (St.ds l)→l.length≤cc→l.length*144≤reach→
  Calls Tryz.prog 45 #[.pointer (some ⟨eb,0,none⟩),.slice A l.length cc] w fun r w'=>∃A' c',r= .returned (.slice A' (St.eds c l e).1.length c')∧Fr (fun k=>k=eb) w w'∧EdAt eb c p w' (St.eds c l e).2∧OwnM ok w.heap.size 42 9 w' (.slice A' (St.eds c l e).1.length c') (St.ds (St.eds c l e).1):=by
 have h2:(c.inside&&c.extra)=false:=by rw[hni];rfl
 have HNI:=Zh hni;clear hni
 induction N with
 |zero=>
  intro l d e ok A cc w _ hN _ _ _ hE _ _ _ _;obtain rfl:l=[]:=by cases l with|nil=>rfl|cons s l=>cases s;simp[St.sizes,St.size] at hN
  go_enter Tryz.func45,Tryz.ntmps45;go_wp2_with fail;refine wp_loop_rounds 1 ?_;rw[rounds_succ];go_wp2_with fail;go_ret;rw[St.eds];exact⟨none,0,rfl,Fr.refl _ _,hE,OwnM.nil _ _ _ _ _⟩
 |succ N ih=>
 intro l d e ok A cc w hoks hN hM hB hok hE hP hr hlc hc;have HOKS:=Zh hoks;clear hoks;have hlen:l.length≤2000:=Nat.le_trans (len_sizes l) hM;have heb:eb<w.heap.size:=blk_lt hE;have IH:=Zh ih;clear ih;have HR0:=Zh hr;clear hr;have HP:=Zh hP;clear hP;have HC:=Zh hc;clear hc;have HLC:=Zh hlc;clear hlc;have HM:=Zh hM;clear hM;have HNN:=Zh hN;clear hN;have HBB:=Zh hB;clear hB;have HK:=Zh hok;clear hok;have HE:=Zh hE;clear hE;go_enter Tryz.func45,Tryz.ntmps45;go_wp2_with fail
 go_loopw [5,6] (fun v i wr=>∃j:Nat,i= .int .i64 j∧j≤l.length∧Fr (fun k=>k=eb) w wr∧EdAt eb c p wr (St.eds c (l.take j) e).2∧OwnM ok w.heap.size 42 9 wr v (St.ds (St.eds c (l.take j) e).1)) (fun _ i _=>l.length-(intOf i).toNat)
 case atStart=>exact⟨0,rfl,by omega,Fr.refl _ _,by rw[List.take_zero,St.eds];exact HE.out,by rw[List.take_zero,St.eds];exact OwnM.nil _ _ _ _ _⟩
 case round=>
  obtain⟨j,rfl,hj,hfr,hed,hown⟩:=hrel;obtain⟨wo,rfl⟩:∃wo:World,wo=wr:=⟨_,rfl⟩;have hz:w.heap.size≤wo.heap.size:=hfr.size;have hbd:=eds_bd c h2 (l.take j) e;have hln:=eds_length c h2 (l.take j) e;have hsj:=sizes_take_le l j;by_cases hlt:j<l.length
  ·obtain⟨oj,ej,hoe⟩:∃oj ej,St.eds c (l.take j) e=(oj,ej):=⟨_,_,rfl⟩;have hsn:=eds_snoc c l e j hlt;rw[hoe] at hed hown hbd hln hsn;simp only at hed hown hbd hln hsn;have hlj:oj.length≤4000:=by have:=hln.2;rw[List.length_take] at this;omega
   obtain⟨A0,c0,rfl,hc0⟩:=hown.slice;rw[St.ds_length] at hc0 hown ⊢;have hst:=sizes_take l j hlt;have hst2:=sizes_take_le l (j+1);obtain⟨b,o1,A1,c1,A2,c2,A3,c3,A4,c4,rfl,hb,e0,e1,e2,e3,e4,e5,e6,e7,e8,⟨p1,q1,r1⟩,⟨p2,q2,r2⟩,⟨p3,q3,r3⟩,⟨p4,q4,r4⟩⟩:=at_st (HR0.out.fr hfr (fun k hk=>(HK.out k hk).2) (fun _ h=>h)) j hlt;obtain⟨s,hs⟩:∃s,l[j]=s:=⟨_,rfl⟩;rw[hs] at e0 e1 e2 e3 e4 e5 e6 e7 e8 p1 q1 r1 p2 q2 r2 p3 q3 r3 p4 q4 r4 hsn hst;have hs1:=St.size_eq s;have hso:St.ok s d=true:=by
    rw[←hs];cases hx:St.ok l[j] d with
    |true=>rfl
    |false=>have:=oks_false l d j hlt hx;rw[HOKS.out] at this;cases this
   have HEX8:=Zh (show s.ex.length≤8∧St.oks s.body (d+1)=true∧St.oks s.els (d+1)=true by
    rw[St.ok_eq] at hso;simp only[Bool.and_eq_true] at hso;refine⟨?_,hso.1.2,hso.2⟩;have:=hso.1.1.2;cases s with
    |mk k nm fr se mt ex args body els=>exact(form_len8 this))
   clear hso;have hEB:EB ej (1+St.sizes s.body+St.sizes s.els):=HBB.out.go hbd (by omega);have hbN:St.sizes s.body≤N∧St.sizes s.els≤N∧St.sizes s.body≤2000∧St.sizes s.els≤2000:=by have:=HNN.out;have:=HM.out;omega
   have Hoe:=Zh hoe;have HSN:=Zh hsn;have HEB:=Zh hEB;have HBN:=Zh hbN;have HLJ:=Zh hlj;have HC0:=Zh hc0
   have R1:=Zh r1;have R2:=Zh r2;have R3:=Zh r3;have R4:=Zh r4
   have Q1:=Zh (And.intro p1 q1);have Q2:=Zh (And.intro p2 q2);have Q3:=Zh (And.intro p3 q3);have Q4:=Zh (And.intro p4 q4)
   have HED:=Zh hed;have HOW:=Zh hown;have HFR:=Zh hfr
   clear hoe hsn hEB hbN hlj hc0 r1 r2 r3 r4 p1 q1 p2 q2 p3 q3 p4 q4 hed hown hfr hbd hln hsj hst hst2 hs1 hs;obtain⟨sb,hsb⟩:∃sb,sb=wo.heap.size:=⟨_,rfl⟩;obtain⟨W1,HW1⟩:∃W1,W1=wo.alloc (.cells #[vu8 s.kind,.string s.name,.string s.frm,.bool s.sec,.bool s.mt,.slice A1 s.ex.length c1,.slice A2 s.args.length c2,.slice A3 s.body.length c3,.slice A4 s.els.length c4] 42):=⟨_,rfl⟩;have hf1:Fr (fun k=>k=eb) wo W1:=by rw[HW1];exact(Fr.refl _ wo).alloc _
   have hb1:W1.heap[sb]? =some (.cells #[vu8 s.kind,.string s.name,.string s.frm,.bool s.sec,.bool s.mt,.slice A1 s.ex.length c1,.slice A2 s.args.length c2,.slice A3 s.body.length c3,.slice A4 s.els.length c4] 42 (0,0)):=by rw[HW1,hsb];exact blk_new _ _ _
   have H1:=Zh (show EdAt eb c p W1 ej by rw[HW1];exact blk_old HED.out);have B1:=Zh hb1;have F1:=Zh hf1
   have HNE:=Zh (show eb≠sb by omega);have HSB:=Zh hsb;clear hb1 hf1 hsb;have q15:=H1.out.c15;have qf:=H1.out.fz;have hn0:=HEB.out.n0;have hn1:=HEB.out.n1;obtain⟨W2,HW2⟩:∃W2,W2=W1.setCell ⟨eb,15,none⟩ (.int .i64 (ej.n+1)):=⟨_,rfl⟩;have hf2:Fr (fun k=>k=eb) W1 W2:=by rw[HW2];exact(Fr.refl _ W1).setCell _ _ (.inl rfl)
   have H2:=Zh (show EdAt eb c p W2 ej.next by rw[HW2];exact blk_set H1.out 15 _);have B2:=Zh (Zb B1.out hf2 (fun e=>HNE.out e.symm));have F2:=Zh (F1.out.trans hf2);clear hf2;go_upto_region 6 with fail;rw[←HSB.out,←HW1];clear HW1 e0 e1 e2 e3 e4 e5 e6 e7 e8;go_upto_region 7 with fail;rw[←HW2];clear HW2 q15 qf hn0 hn1;have x0:W2.cell? ⟨sb,0,none⟩=some (vu8 s.kind):=(Zc B2.out).1 0 _ rfl;have q0:=H2.out.c0;have q1:=H2.out.c1;have q14:=H2.out.c14;have qf:=H2.out.fz;have hk0: -100000≤ej.next.K:=by have:=HEB.out.k0;show -100000≤ej.K;omega
   have hk1:ej.next.K≤100000:=HEB.out.k1;obtain⟨W2,rfl⟩:∃x:World,x=W2:=⟨_,rfl⟩;go_upto_region 8 with fail
   go_cut [39] (fun v39 wx=>Fr Non W2 wx∧v39= .bool (ej.next.hit c s.kind))
   case first=>
    by_cases hk:s.kind.toNat=c.kd.toNat
    ·have hkb:((s.kind.toNat:Int)==(c.kd.toNat:Int))=true:=by rw[hk];simp
     have hkc:(s.kind.toNat==c.kd.toNat)=true:=by rw[hk];simp
     have HKC:=Zh hkc;clear hkc hk;cases hd:ej.next.done
     ·have HD:=Zh hd;rw[hd] at q14;clear hd
      go_quiet (fail)
      go_wp2_with fail
      go_meet
      exact⟨(Zf W2).drewM _,by unfold EdS.hit;rw[HD.out,HKC.out];rfl⟩
     ·have HD:=Zh hd;rw[hd] at q14;clear hd
      go_quiet (fail)
      go_wp2_with fail
      go_meet
      exact⟨(Zf W2).drewM _,by unfold EdS.hit;rw[HD.out];simp⟩
    ·have hkb:((s.kind.toNat:Int)==(c.kd.toNat:Int))=false:=by rw[beq_eq_false_iff_ne];omega
     have hkc:(s.kind.toNat==c.kd.toNat)=false:=by rw[beq_eq_false_iff_ne];exact hk
     have HKC:=Zh hkc;clear hkc hk
     go_quiet (fail)
     go_wp2_with fail
     go_meet
     exact⟨(Zf W2).drewM _,by unfold EdS.hit;rw[HKC.out];rfl⟩
   case rest=>
   obtain⟨hfc,rfl⟩:=hcut;obtain⟨V2,rfl⟩:∃x:World,x=wc:=⟨_,rfl⟩;have H3:=Zh (H2.out.fr hfc (non _));have B3:=Zh (Zb B2.out hfc (non _));have F3:=Zh (F2.out.trans hfc.non);obtain⟨hit,hhit⟩:∃x,x=ej.next.hit c s.kind:=⟨_,rfl⟩;rw[←hhit];have HHIT:=Zh hhit;clear hhit x0 q14 q0 q1 qf hfc H2 B2 F2;have q1:=H3.out.c1;have qf:=H3.out.fz
   go_upto_if 39 with fail
   go_cut [8] (fun v8 wx=>v8= .bool (ej.next.here c s.kind)∧EdAt eb c p wx (ej.next.pass c s.kind)∧Fr (fun k=>k=eb) V2 wx)
   case first=>
    cases hit
    ·go_wp2_with fail
     go_meet
     exact⟨by unfold EdS.here;rw[←HHIT.out];rfl,by unfold EdS.pass;rw[←HHIT.out];exact H3.out,Fr.refl _ _⟩
    ·go_wp2_with fail
     go_meet
     exact⟨by unfold EdS.here;rw[←HHIT.out,Bool.true_and],by unfold EdS.pass;rw[←HHIT.out,if_pos rfl];exact blk_set H3.out 1 _,(Fr.refl _ _).setCell _ _ (.inl rfl)⟩
   case rest=>
   obtain⟨rfl,h4,hfc⟩:=hcut;obtain⟨V4,rfl⟩:∃x:World,x=wc:=⟨_,rfl⟩;have B4:=Zh (Zb B3.out hfc (fun e=>HNE.out e.symm));have F4:=Zh (F3.out.trans hfc);obtain⟨hb,hhb⟩:∃x,x=ej.next.here c s.kind:=⟨_,rfl⟩;obtain⟨e1,he1⟩:∃x,x=ej.next.pass c s.kind:=⟨_,rfl⟩;have hpn:=edr_next ej c s.kind;rw[←hhb];rw[←he1] at h4 hpn;have HB1:=Zh (show EB e1 (St.sizes s.body+St.sizes s.els) from⟨by have:=HEB.out.n0;omega,by have:=HEB.out.n1;omega,by have:=HEB.out.k0;omega,by have:=HEB.out.k1;omega⟩);have HHB:=Zh hhb;have HE1:=Zh he1;have H4:=Zh h4
   clear hhb he1 hpn h4 hfc q1 qf hk0 hk1 H3 B3 F3;obtain⟨xe,hxe⟩:∃x,x=(if hb&&c.extra then s.ex++[num0] else s.ex):=⟨_,rfl⟩;obtain⟨e2,he2⟩:∃x,x=(if hb&&c.extra then e1.did s.mt else e1):=⟨_,rfl⟩;have HXE:=Zh hxe;have HE2:=Zh he2
   clear hxe he2;have q12:=H4.out.c12;obtain⟨cx,hcx⟩:∃x,x=c.extra:=⟨_,rfl⟩;rw[←hcx] at q12;have HCX:=Zh hcx;clear hcx;go_upto_region 11 with fail
   go_cut [58] (fun v58 wx=>wx=V4∧v58= .bool (hb&&cx))
   case first=>
    cases hb<;>cases cx;all_goals
     go_wp2_with fail
     go_meet
     exact⟨rfl,rfl⟩
   case rest=>
   obtain⟨rfl,rfl⟩:=hcut;clear q12;rw[←HCX.out] at HXE HE2;obtain⟨hx,hhx⟩:∃x,x=(hb&&cx):=⟨_,rfl⟩;rw[←hhx] at HXE HE2;rw[←hhx];have HHX:=Zh hhx;clear hhx;have x5:wc.cell? ⟨sb,5,none⟩=some (.slice A1 s.ex.length c1):=(Zc B4.out).1 5 _ rfl;have xf:=(Zc B4.out).2;have q13:=H4.out.c13;have q14:=H4.out.c14;have q15:=H4.out.c15;have qf:=H4.out.fz;have hlx:s.ex.length≤2199023255552:=by have:=Q1.out.2;unfold reach at this;omega
   obtain⟨V4,rfl⟩:∃x:World,x=wc:=⟨_,rfl⟩
   go_upto_if 58 with fail
   go_cut [] (fun wx=>∃A1' c1',wx.heap[sb]? =some (.cells #[vu8 s.kind,.string s.name,.string s.frm,.bool s.sec,.bool s.mt,.slice A1' xe.length c1',.slice A2 s.args.length c2,.slice A3 s.body.length c3,.slice A4 s.els.length c4] 42 (0,0))∧EdAt eb c p wx e2∧Fr (fun k=>k=eb∨k=sb) V4 wx∧xe.length≤c1'∧xe.length*64≤reach∧RdRows (okL ok (sb+1) wx) wx 5 A1' 0 (Ex.ds xe))
   case first=>
    cases hx
    ·obtain rfl:xe=s.ex:=by rw[HXE.out];rfl
     obtain rfl:e2=e1:=by rw[HE2.out];rfl
     go_wp2_with fail
     go_meet
     exact⟨A1,c1,B4.out,H4.out,Fr.refl _ _,Q1.out.1,Q1.out.2,R1.out.fr F4.out (fun k hk=>(HK.out k hk).2) fun k hk=>.inl hk⟩
    ·obtain⟨V5,HV5⟩:∃V5,V5=(V4.setCell ⟨eb,13,none⟩ (.int .i64 e1.n)).setCell ⟨eb,14,none⟩ (.bool true):=⟨_,rfl⟩;have hf5:Fr (fun k=>k=eb) V4 V5:=by rw[HV5];exact((Fr.refl (fun k=>k=eb) V4).setCell ⟨eb,13,none⟩ _ (.inl rfl)).setCell ⟨eb,14,none⟩ _ (.inl rfl)
     have H5:=Zh (show EdAt eb c p V5 (e1.did s.mt) by rw[HV5];exact blk_set (blk_set H4.out 13 _) 14 _);have B5:=Zh (Zb B4.out hf5 (fun e=>HNE.out e.symm));have F5:=Zh (F4.out.trans hf5);have G5:=Zh hf5;clear hf5;go_upto_region 14 with fail;rw[←HV5];clear HV5 x5 xf q13 q14 q15 qf;have x5:V5.cell? ⟨sb,5,none⟩=some (.slice A1 s.ex.length c1):=(Zc B5.out).1 5 _ rfl;have xf:=(Zc B5.out).2;have hsv:sb+1≤V5.heap.size:=blk_lt B5.out;have hokb:∀k,ok k→k<V5.heap.size:=fun k hk=>by have:=(HK.out k hk).1;have:=HSB.out;omega
     have HSV:=Zh hsv;have HOKB:=Zh hokb;clear hsv hokb
     go_wp2_with (at_builtin;refine appX_ex rfl _ _ rfl ok V5.heap.size (.slice none 0 0) [] rfl (OwnX.nil _ _ _ _ _) HOKB.out A1 c1 (Ex.ds s.ex) (by rw[Ex.ds_length];rfl) ?src (one_exs _) ?b1 ?b2 (Nat.le_refl _) ?k)
     case src=>exact R1.out.fr F5.out (fun k hk=>(HK.out k hk).2) fun _ h=>h
     case b1=>have:=(room64 Q1.out.2).1;first|exact this|(rw[Ex.ds_length];simpa using this)
     case b2=>have:=(room64 Q1.out.2).2;first|exact this|(rw[Ex.ds_length];simpa using this)
     case k=>
     intro v3 w3 hown3 hf3
     try simp only[List.nil_append] at hown3
     obtain⟨A6,c6,rfl,hl6⟩:=hown3.slice
     try simp only[Ex.ds_length] at hown3
     try simp only[Ex.ds_length] at hl6
     try simp only[Ex.ds_length]
     have hf3:Fr Non V5 w3:=hf3.mono fun k _ h=>by cases h.2
     have B6:=Zh (Zb B5.out hf3 (non _));have G6:=Zh hf3;have hm:OwnM ok V5.heap.size 48 5 w3 (.slice A6 s.ex.length c6) (Ex.ds s.ex):=by
      obtain⟨xs,g1,g2⟩:=hown3;exact⟨xs,g1,g2.mono (fun _ _ _ _ h=>h) fun _ h=>.inl h⟩
     have HM6:=Zh hm;have HL6:=Zh hl6
     clear hm hl6 hown3 hf3 x5 xf;have hb7:=blk_old (o':=.cells #[.int .u8 1,.int .u64 0,.string ⟨#[]⟩,.int .u8 0,.slice none 0 0] 48) B6.out;have x5:(w3.alloc (.cells #[.int .u8 1,.int .u64 0,.string ⟨#[]⟩,.int .u8 0,.slice none 0 0] 48)).cell? ⟨sb,5,none⟩=some (.slice A1 s.ex.length c1):=(Zc hb7).1 5 _ rfl;have xf:=(Zc hb7).2;have HB7:=Zh hb7;clear hb7;go_wp2_with (at_builtin;refine appM_ex rfl _ _ rfl ok V5.heap.size (.slice A6 s.ex.length c6) (Ex.ds s.ex) rfl ?o HOKB.out ⟨w3.heap.size,0,none⟩ 1 1 rfl [num0.d] [.int .u8 1,.int .u64 0,.string ⟨#[]⟩,.int .u8 0,.slice none 0 0] ?ch rfl ?nc ?ones ?b1 ?b2 ?b3 ?k)
     case o=>exact HM6.out.fr ((Zf w3).alloc _) (fun _ _=>non _) (fun _ _=>non _)
     case ch=>exact chunk_ex num0 (A:=none) (c:=0) (Nat.zero_le _) (by decide) trivial
     case nc=>exact new_cells' rfl
     case ones=>intro u hu;simp at hu;rcases hu with rfl|rfl|rfl|rfl|rfl<;>rfl
     case b1=>rw[Ex.ds_length];unfold maxLen;have:=Q1.out.2;unfold reach at this;omega
     case b2=>rw[Ex.ds_length];have:=Q1.out.2;unfold reach at this;omega
     case b3=>have:=G6.out.size;simp;omega
     case k=>
     intro v4 w4 hown4 hf4;obtain⟨A7,c7,rfl,hl7⟩:=hown4.slice;have hle:(Ex.ds s.ex++[num0.d]).length=s.ex.length+1:=by rw[List.length_append,Ex.ds_length];rfl
     rw[hle] at hown4 hl7 ⊢;clear x5 xf;have hb8:=Zb HB7.out hf4 (fun h=>by have:=h.1;have:=HSV.out;omega);have x5:w4.cell? ⟨sb,5,none⟩=some (.slice A1 s.ex.length c1):=(Zc hb8).1 5 _ rfl;have xf:=(Zc hb8).2;have HB8:=Zh hb8;have HO8:=Zh hown4;have HL8:=Zh hl7;have HF8:=Zh hf4
     clear hb8 hown4 hl7 hf4 hle;go_wp2_with fail
     go_meet
     obtain rfl:xe=s.ex++[num0]:=by rw[HXE.out];rfl
     obtain rfl:e2=e1.did s.mt:=by rw[HE2.out];rfl
     have hln:(s.ex++[num0]).length=s.ex.length+1:=by rw[List.length_append];rfl
     have hff:Fr (fun k=>k=sb) w4 (w4.setCell ⟨sb,5,none⟩ (.slice A7 (s.ex.length+1) c7)):=(Fr.refl (fun k=>k=sb) w4).setCell ⟨sb,5,none⟩ _ (.inl rfl);have hal:Fr Non w3 (w3.alloc (.cells #[.int .u8 1,.int .u64 0,.string ⟨#[]⟩,.int .u8 0,.slice none 0 0] 48)):=(Zf w3).alloc _;have hsz:=G6.out.size;have hsz2:=HSV.out;have hsz3:=hal.size;have hsb0:=HSB.out;rw[hln];refine⟨A7,c7,blk_set HB8.out 5 _,?_,?_,HL8.out,by have:=HEX8.out.1;unfold reach;omega,?_⟩
     ·exact(((H5.out.fr G6.out (non _)).fr hal (non _)).fr HF8.out (fun h=>by have:=h.1;omega)).fr hff (fun e=>HNE.out e)
     ·exact((((G5.out.mono (T:=fun k=>k=eb∨k=sb) fun _ _ h=>.inl h).trans G6.out.non).trans hal.non).then HF8.out (fun k hk h=>by have:=h.1;have:=G5.out.size;omega)).trans (hff.mono fun _ _ h=>.inr h)
     ·have r:=HO8.out.rows;rw[show Ex.ds s.ex++[num0.d]=Ex.ds (s.ex++[num0]) by rw[Ex.ds_eq,Ex.ds_eq,List.map_append];rfl] at r;exact r.fr hff (fun k hk e=>by
       have e:k=sb:=e;rcases hk with hk|hk
       ·have:=(HK.out k hk).1;omega
       ·have:=hk.1;omega) fun k hk=>hk.imp id fun hk=>⟨by have:=hk.1;omega,Nat.lt_of_lt_of_le hk.2 hff.size⟩
   case rest=>
   obtain⟨A5,c5,hbk,hed,hfc,hx1,hx2,hx3⟩:=hcut;obtain⟨V6,rfl⟩:∃x:World,x=wc:=⟨_,rfl⟩;have B6:=Zh hbk;have H6:=Zh hed
   have F6:=Zh (show Fr (fun k=>k=eb) wo V6 from F4.out.then hfc (fun k hk h=>by
    rcases h with h|h
    ·exact h
    ·exfalso;have:=HSB.out;omega))
   have X6:=Zh (And.intro hx1 hx2);have RX:=Zh hx3
   have HB2:=Zh (show EB e2 (St.sizes s.body+St.sizes s.els) by
    rw[HE2.out];split
    ·exact⟨HB1.out.n0,HB1.out.n1,HB1.out.k0,HB1.out.k1⟩
    ·exact HB1.out)
   clear hbk hed hfc hx1 hx2 hx3 x5 xf q13 q14 q15 qf hlx H4 B4 F4 HB1;have x7:V6.cell? ⟨sb,7,none⟩=some (.slice A3 s.body.length c3):=(Zc B6.out).1 7 _ rfl;have xf:=(Zc B6.out).2;go_wp2_with fail;refine(IH.out s.body (d+1) e2 ok A3 c3 V6 HEX8.out.2.1 HBN.out.1 HBN.out.2.2.1 (HB2.out.le (by omega)) (fun k hk=>⟨by have:=(HK.out k hk).1;have:=F6.out.size;omega,(HK.out k hk).2⟩) H6.out (HP.out.fr (HFR.out.trans F6.out) (fun k hk=>(HK.out k hk).2)) (R3.out.fr F6.out (fun k hk=>(HK.out k hk).2) fun _ h=>h) Q3.out.1 Q3.out.2).mono ?_;rintro r w7 ⟨A7,c7,rfl,hf7,h7,ho7⟩;obtain⟨ob,e3,hob⟩:∃ob e3,St.eds c s.body e2=(ob,e3):=⟨_,_,rfl⟩;have hbd7:=eds_bd c h2 s.body e2;have hln7:=(eds_length c h2 s.body e2).2;have hls7:=len_sizes s.body;rw[hob] at h7 ho7 hbd7 hln7 ⊢;simp only at h7 ho7 hbd7 hln7 ⊢;have HC7:=Zh (show ob.length≤c7 by obtain⟨_,_,ee,h⟩:=ho7.slice;injection ee with _ _ e3;rw[St.ds_length] at h;omega);have B7:=Zh (Zb B6.out hf7 (fun e=>HNE.out e.symm));have F7:=Zh (F6.out.trans hf7);have hzb:=blk_lt B6.out;have hsb0:=HSB.out;have RX7:=Zh (RX.out.fr hf7 (fun k hk e=>by
    have e:k=eb:=e;rcases hk with hk|hk
    ·exact(HK.out k hk).2 e
    ·have:=hk.1;omega) fun k hk=>hk.imp id fun hk=>(⟨hk.1,Nat.lt_of_lt_of_le hk.2 hf7.size⟩:sb+1≤k∧k<w7.heap.size))
   have H7:=Zh h7;have O7:=Zh ho7
   have HOB:=Zh hob;have HLN7:=Zh (And.intro hln7 hls7)
   have HB3:=Zh (HB2.out.go hbd7 (Nat.le_refl _));clear hf7 h7 ho7 hob hbd7 hln7 hls7 x7 xf B6 H6;have x7:w7.cell? ⟨sb,7,none⟩=some (.slice A3 s.body.length c3):=(Zc B7.out).1 7 _ rfl;have xf:=(Zc B7.out).2;obtain⟨V8,HV8⟩:∃V8,V8=w7.setCell ⟨sb,7,none⟩ (.slice A7 ob.length c7):=⟨_,rfl⟩;have hf8:Fr (fun k=>k=sb) w7 V8:=by rw[HV8];exact(Fr.refl (fun k=>k=sb) w7).setCell ⟨sb,7,none⟩ _ (.inl rfl)
   have B8:=Zh (show V8.heap[sb]? =some (.cells #[vu8 s.kind,.string s.name,.string s.frm,.bool s.sec,.bool s.mt,.slice A5 xe.length c5,.slice A2 s.args.length c2,.slice A7 ob.length c7,.slice A4 s.els.length c4] 42 (0,0)) by rw[HV8];exact blk_set B7.out 7 _);have H8:=Zh (H7.out.fr hf8 HNE.out);have F8:=Zh (F7.out.then hf8 (S:=fun k=>k=eb) fun k hk e=>by have e:k=sb:=e;omega);have RX8:=Zh (RX7.out.fr hf8 (fun k hk e=>by
    have e:k=sb:=e;rcases hk with hk|hk
    ·have:=(HK.out k hk).1;omega
    ·have:=hk.1;omega) fun k hk=>hk.imp id fun hk=>(⟨hk.1,Nat.lt_of_lt_of_le hk.2 hf8.size⟩:sb+1≤k∧k<V8.heap.size))
   have O8:=Zh (O7.out.fr hf8 (fun k hk e=>by have e:k=sb:=e;omega) (fun k hk e=>by have e:k=sb:=e;have:=(HK.out k hk).1;omega));have HZB:=Zh hzb;clear hf8 hzb hsb0;go_upto_region 16 with fail;rw[←HV8];clear HV8 x7 xf;have q11:=H8.out.c11;rw[HNI.out] at q11
   go_cut [87] (fun v87 wx=>wx=V8∧v87= .bool false)
   case first=>
    cases hb;all_goals
     go_wp2_with fail
     go_meet
     exact⟨rfl,rfl⟩
   case rest=>
   obtain⟨rfl,rfl⟩:=hcut;obtain⟨V8,rfl⟩:∃x:World,x=wc:=⟨_,rfl⟩;clear q11;have x8:V8.cell? ⟨sb,8,none⟩=some (.slice A4 s.els.length c4):=(Zc B8.out).1 8 _ rfl;have xf:=(Zc B8.out).2;go_wp2_with fail;refine(IH.out s.els (d+1) e3 ok A4 c4 V8 HEX8.out.2.2 HBN.out.2.1 HBN.out.2.2.2 HB3.out (fun k hk=>⟨by have:=(HK.out k hk).1;have:=F8.out.size;omega,(HK.out k hk).2⟩) H8.out (HP.out.fr (HFR.out.trans F8.out) (fun k hk=>(HK.out k hk).2)) (R4.out.fr F8.out (fun k hk=>(HK.out k hk).2) fun _ h=>h) Q4.out.1 Q4.out.2).mono ?_;rintro r w9 ⟨A9,c9,rfl,hf9,h9,ho9⟩;obtain⟨ol,e4,hol⟩:∃ol e4,St.eds c s.els e3=(ol,e4):=⟨_,_,rfl⟩;have hbd9:=eds_bd c h2 s.els e3;have hln9:=(eds_length c h2 s.els e3).2;have hls9:=len_sizes s.els;rw[hol] at h9 ho9 hbd9 hln9 ⊢;simp only at h9 ho9 hbd9 hln9 ⊢;have HC9:=Zh (show ol.length≤c9 by obtain⟨_,_,ee,h⟩:=ho9.slice;injection ee with _ _ e3;rw[St.ds_length] at h;omega);have hsb0:=HSB.out;have hzb:=blk_lt B8.out;have B9:=Zh (Zb B8.out hf9 (fun e=>HNE.out e.symm));have F9:=Zh (F8.out.trans hf9);have RX9:=Zh (RX8.out.fr hf9 (fun k hk e=>by
    have e:k=eb:=e;rcases hk with hk|hk
    ·exact(HK.out k hk).2 e
    ·have:=hk.1;omega) fun k hk=>hk.imp id fun hk=>(⟨hk.1,Nat.lt_of_lt_of_le hk.2 hf9.size⟩:sb+1≤k∧k<w9.heap.size))
   have RB9:=Zh (O8.out.rows.fr hf9 (fun k hk e=>by
    have e:k=eb:=e;rcases hk with hk|hk
    ·exact(HK.out k hk).2 e
    ·have:=hk.1;have:=HZB.out;omega) fun k hk=>hk.imp id fun hk=>(⟨by have:=hk.1;have:=HZB.out;omega,Nat.lt_of_lt_of_le hk.2 hf9.size⟩:sb+1≤k∧k<w9.heap.size))
   have RL9:=Zh (ho9.rows.fr (Fr.refl Non w9) (fun _ _=>non _) fun k hk=>hk.imp id fun hk=>(⟨by have:=hk.1;omega,hk.2⟩:sb+1≤k∧k<w9.heap.size));have H9:=Zh h9;have HOL:=Zh hol;have HLN9:=Zh (And.intro hln9 hls9)
   have HB4:=Zh (HB3.out.go (k:=0) hbd9 (Nat.le_refl _));clear hf9 h9 ho9 hol hbd9 hln9 hls9 x8 xf B8 H8 F8 RX8 O8;have x8:w9.cell? ⟨sb,8,none⟩=some (.slice A4 s.els.length c4):=(Zc B9.out).1 8 _ rfl;have xf:=(Zc B9.out).2;obtain⟨V10,HV10⟩:∃V10,V10=w9.setCell ⟨sb,8,none⟩ (.slice A9 ol.length c9):=⟨_,rfl⟩;have hf10:Fr (fun k=>k=sb) w9 V10:=by rw[HV10];exact(Fr.refl (fun k=>k=sb) w9).setCell ⟨sb,8,none⟩ _ (.inl rfl)
   have B10:=Zh (show V10.heap[sb]? =some (.cells #[vu8 s.kind,.string s.name,.string s.frm,.bool s.sec,.bool s.mt,.slice A5 xe.length c5,.slice A2 s.args.length c2,.slice A7 ob.length c7,.slice A9 ol.length c9] 42 (0,0)) by rw[HV10];exact blk_set B9.out 8 _);have H10:=Zh (H9.out.fr hf10 HNE.out);have F10:=Zh (F9.out.then hf10 (S:=fun k=>k=eb) fun k hk e=>by have e:k=sb:=e;omega);have hrr:∀{sz:Nat} {A:Option Addr} {l:List (List D)},RdRows (fun k=>ok k∨(sb+1≤k∧k<w9.heap.size)) w9 sz A 0 l→RdRows (okL ok (sb+1) V10) V10 sz A 0 l:=fun h=>h.fr hf10 (fun k hk e=>by
    have e:k=sb:=e;rcases hk with hk|hk
    ·have:=(HK.out k hk).1;omega
    ·have:=hk.1;omega) fun k hk=>hk.imp id fun hk=>⟨hk.1,Nat.lt_of_lt_of_le hk.2 hf10.size⟩
   have RX10:=Zh (hrr RX9.out);have RB10:=Zh (hrr RB9.out);have RL10:=Zh (hrr RL9.out)
   have RG10:=Zh (R2.out.fr F10.out (fun k hk=>(HK.out k hk).2) (fun k hk=>(.inl hk:okL ok (sb+1) V10 k)));clear hf10 hrr hsb0 hzb;go_upto_region 22 with fail;rw[←HV10];clear HV10 x8 xf;have l0:=(Zc B10.out).1 0 _ rfl;have l1:=(Zc B10.out).1 1 _ rfl;have l2:=(Zc B10.out).1 2 _ rfl;have l3:=(Zc B10.out).1 3 _ rfl;have l4:=(Zc B10.out).1 4 _ rfl;have l5:=(Zc B10.out).1 5 _ rfl;have l6:=(Zc B10.out).1 6 _ rfl;have l7:=(Zc B10.out).1 7 _ rfl;have l8:=(Zc B10.out).1 8 _ rfl;have hz10:wo.heap.size≤V10.heap.size:=F10.out.size;have HZ10:=Zh hz10;clear hz10;go_wp2_with (at_builtin;refine appM_st rfl _ _ rfl ok w.heap.size (.slice A0 oj.length c0) (St.ds oj) rfl ?o (fun k hk=>(HK.out k hk).1) ⟨V10.heap.size,0,none⟩ 1 1 rfl [(s.wth xe ob ol).d] [vu8 s.kind,.string s.name,.string s.frm,.bool s.sec,.bool s.mt,.slice A5 xe.length c5,.slice A2 s.args.length c2,.slice A7 ob.length c7,.slice A9 ol.length c9] ?ch rfl ?nc (one_st _ _ _ _ _ _ _ _ _ _ _ _ _ _ _ _ _) ?b1 ?b2 ?b3 ?k)
   case o=>exact(HOW.out.fr F10.out (fun k hk e=>by have e:k=eb:=e;omega) (fun k hk=>(HK.out k hk).2)).fr ((Zf V10).alloc _) (fun _ _=>non _) (fun _ _=>non _)
   case nc=>exact new_cells' rfl
   case ch=>
    have hv:=HOW.out.lt;have hsb0:=HSB.out;have hz:=HFR.out.size;have hh:∀{sz:Nat} {A:Option Addr} {l:List (List D)},RdRows (okL ok (sb+1) V10) V10 sz A 0 l→RdRows (okM ok w.heap.size (V10.alloc (.cells #[vu8 s.kind,.string s.name,.string s.frm,.bool s.sec,.bool s.mt,.slice A5 xe.length c5,.slice A2 s.args.length c2,.slice A7 ob.length c7,.slice A9 ol.length c9] 42)) (.slice A0 oj.length c0)) (V10.alloc (.cells #[vu8 s.kind,.string s.name,.string s.frm,.bool s.sec,.bool s.mt,.slice A5 xe.length c5,.slice A2 s.args.length c2,.slice A7 ob.length c7,.slice A9 ol.length c9] 42)) sz A 0 l:=fun h=>h.fr ((Zf V10).alloc _) (fun _ _=>non _) fun k hk=>hk.imp id fun hk=>⟨by have:=hk.1;omega,by have:=hk.2;simp;omega,fun ee=>by have:=(hv k ee).2;have:=hk.1;omega⟩;exact chunk_st (s.wth xe ob ol) X6.out.1 X6.out.2 (hh RX10.out) Q2.out.1 Q2.out.2 (hh RG10.out) HC7.out (by have:=HLN7.out;have:=HBN.out;show ob.length*144≤reach;unfold reach;omega) (hh RB10.out) HC9.out (by have:=HLN9.out;have:=HBN.out;show ol.length*144≤reach;unfold reach;omega) (hh RL10.out)
   case b1=>first|(rw[St.ds_length];unfold maxLen;have:=HLJ.out;omega)|(unfold maxLen;have:=HLJ.out;omega)
   case b2=>first|(rw[St.ds_length];have:=HLJ.out;omega)|(have:=HLJ.out;omega)
   case b3=>have:=HFR.out.size;have:=HZ10.out;simp;omega
   case k=>
   intro v11 w11 hown hf11;have hde:St.ds oj++[(s.wth xe ob ol).d]=St.ds (oj++[s.wth xe ob ol]):=by rw[St.ds_eq,St.ds_eq,List.map_append];rfl
   rw[hde] at hown;obtain⟨A11,c11,rfl,hl11⟩:=hown.slice;have hal:Fr Non V10 (V10.alloc (.cells #[vu8 s.kind,.string s.name,.string s.frm,.bool s.sec,.bool s.mt,.slice A5 xe.length c5,.slice A2 s.args.length c2,.slice A7 ob.length c7,.slice A9 ol.length c9] 42)):=(Zf V10).alloc _;rw[St.ds_length] at hown hl11 ⊢;obtain⟨n11,hn11⟩:∃n,n=(oj++[s.wth xe ob ol]).length:=⟨_,rfl⟩;rw[←hn11] at hown hl11 ⊢;have HN11:=Zh hn11;clear hn11;have FW:=Zh (show Fr (fun k=>k=eb) w w11 from((HFR.out.trans F10.out).trans hal.non).then hf11 (fun k hk h=>by have:=h.1;omega));have H11:=Zh ((H10.out.fr hal (non _)).fr hf11 (fun h=>by have:=h.1;omega));have O11:=Zh hown;have HL11:=Zh hl11
   have B11:=Zh (Zb (Zb B10.out hal (non _)) hf11 (fun h=>by have:=(HOW.out.lt _ h.2).2;have:=HSB.out;omega));clear hde hown hl11 hal hf11 l0 l1 l2 l3 l4 l5 l6 l7 l8;have q11:=H11.out.c11;have q12:=H11.out.c12;rw[HNI.out] at q11;rw[←HCX.out] at q12;cases hb
   ·have hed:s.ed c ej=([s.wth xe ob ol],e4):=by
     have g1:xe=s.ex:=by rw[HXE.out,HHX.out];rfl
     have g2:e2=ej.next.pass c s.kind:=by rw[HE2.out,HHX.out];exact HE1.out
     rw[ed_no c s ej HHB.out.symm,←g2,HOB.out];simp only;rw[HOL.out,g1]
    have HED2:=Zh hed;clear hed;go_wp2_with fail;go_roundw
    case rel=>exact⟨j+1,by go_num,by omega,FW.out,by rw[HSN.out,HED2.out];exact H11.out,by rw[HSN.out,HED2.out];exact O11.out⟩
    case measure=>simp[intOf];omega
   ·cases cx
    ·have hed:s.ed c ej=([s.wth xe ob ol,c.of s.frm],e4.next.did s.mt):=by
      have g1:xe=s.ex:=by rw[HXE.out,HHX.out];rfl
      have g2:e2=ej.next.pass c s.kind:=by rw[HE2.out,HHX.out];exact HE1.out
      rw[ed_bh c s ej HHB.out.symm HCX.out.symm HNI.out,←g2,HOB.out];simp only;rw[HOL.out,g1]
     have HED2:=Zh hed;clear hed;have hn0:=HB4.out.n0;have hn1:=HB4.out.n1;have q13:=H11.out.c13;have q14:=H11.out.c14;have q15:=H11.out.c15;have qf:=H11.out.fz;obtain⟨V12,HV12⟩:∃V12,V12=((w11.setCell ⟨eb,15,none⟩ (.int .i64 (e4.n+1))).setCell ⟨eb,13,none⟩ (.int .i64 (e4.n+1))).setCell ⟨eb,14,none⟩ (.bool true):=⟨_,rfl⟩;have hf12:Fr (fun k=>k=eb) w11 V12:=by rw[HV12];exact(((Fr.refl (fun k=>k=eb) w11).setCell ⟨eb,15,none⟩ _ (.inl rfl)).setCell ⟨eb,13,none⟩ _ (.inl rfl)).setCell ⟨eb,14,none⟩ _ (.inl rfl)
     have H12:=Zh (show EdAt eb c p V12 (e4.next.did s.mt) by rw[HV12];exact blk_set (blk_set (blk_set H11.out 15 _) 13 _) 14 _);have B12:=Zh (Zb B11.out hf12 (fun e=>HNE.out e.symm));have F12:=Zh (FW.out.trans hf12);have O12:=Zh (O11.out.fr hf12 (fun k hk e=>by have e:k=eb:=e;omega) (fun k hk=>(HK.out k hk).2));have P12:=Zh (HP.out.fr F12.out (fun k hk=>(HK.out k hk).2));have hz12:w.heap.size≤V12.heap.size:=F12.out.size;have HZ12:=Zh hz12;clear hf12 hz12;go_upto_region 27 with fail;rw[←HV12];clear HV12 q11 q12 q13 q14 q15 qf hn0 hn1;have l0:=(Zc B12.out).1 0 _ rfl;have l1:=(Zc B12.out).1 1 _ rfl;have l2:=(Zc B12.out).1 2 _ rfl;have l3:=(Zc B12.out).1 3 _ rfl;have l4:=(Zc B12.out).1 4 _ rfl;have l5:=(Zc B12.out).1 5 _ rfl;have l6:=(Zc B12.out).1 6 _ rfl;have l7:=(Zc B12.out).1 7 _ rfl;have l8:=(Zc B12.out).1 8 _ rfl;go_wp2_with fail;refine(of_any c p _ eb V12 (s.wth xe ob ol) A5 A2 A7 A9 c5 c2 c7 c9 H12.out).mono ?_;rintro r w13 ⟨rfl,hf13⟩;have hof:=of_fields c s.frm;rw[show(s.wth xe ob ol).frm=s.frm from rfl];unfold stV;have H13:=Zh (H12.out.fr hf13 (non _));have F13:=Zh (F12.out.trans hf13.non);have O13:=Zh (O12.out.fr hf13 (fun _ _=>non _) (fun _ _=>non _));have P13:=Zh (P12.out.fr hf13 (fun _ _=>non _));have HOF:=Zh hof;have HZ13:=Zh (Nat.le_trans HZ12.out hf13.size);clear hf13 hof l0 l1 l2 l3 l4 l5 l6 l7 l8;go_wp2_with (at_builtin;refine appM_st rfl _ _ rfl ok w.heap.size (.slice A11 n11 c11) (St.ds (oj++[s.wth xe ob ol])) rfl ?o (fun k hk=>(HK.out k hk).1) ⟨w13.heap.size,0,none⟩ 1 1 rfl [(c.of s.frm).d] [vu8 (c.of s.frm).kind,.string (c.of s.frm).name,.string (c.of s.frm).frm,.bool (c.of s.frm).sec,.bool (c.of s.frm).mt,.slice p.B1 (c.of s.frm).ex.length p.d1,.slice p.B2 (c.of s.frm).args.length p.d2,.slice p.B3 (c.of s.frm).body.length p.d3,.slice p.B4 (c.of s.frm).els.length p.d4] ?ch rfl ?nc (one_st _ _ _ _ _ _ _ _ _ _ _ _ _ _ _ _ _) ?b1 ?b2 ?b3 ?k)
     case o=>exact O13.out.fr ((Zf w13).alloc _) (fun _ _=>non _) (fun _ _=>non _)
     case nc=>exact new_cells' rfl
     case ch=>
      obtain⟨_,_,_,_,_,z1,z2,z3,z4⟩:=HOF.out;have hh:∀{sz:Nat} {A:Option Addr} {l:List (List D)},RdRows ok w13 sz A 0 l→RdRows (okM ok w.heap.size (w13.alloc (.cells #[vu8 (c.of s.frm).kind,.string (c.of s.frm).name,.string (c.of s.frm).frm,.bool (c.of s.frm).sec,.bool (c.of s.frm).mt,.slice p.B1 (c.of s.frm).ex.length p.d1,.slice p.B2 (c.of s.frm).args.length p.d2,.slice p.B3 (c.of s.frm).body.length p.d3,.slice p.B4 (c.of s.frm).els.length p.d4] 42)) (.slice A11 n11 c11)) (w13.alloc (.cells #[vu8 (c.of s.frm).kind,.string (c.of s.frm).name,.string (c.of s.frm).frm,.bool (c.of s.frm).sec,.bool (c.of s.frm).mt,.slice p.B1 (c.of s.frm).ex.length p.d1,.slice p.B2 (c.of s.frm).args.length p.d2,.slice p.B3 (c.of s.frm).body.length p.d3,.slice p.B4 (c.of s.frm).els.length p.d4] 42)) sz A 0 l:=fun h=>h.fr ((Zf w13).alloc _) (fun _ _=>non _) fun k hk=>.inl hk;exact chunk_st (c.of s.frm) (by rw[z1];exact P13.out.ex.1) (by rw[z1];exact P13.out.ex.2.1) (hh (by rw[z1];exact P13.out.ex.2.2)) (by rw[z2];exact P13.out.args.1) (by rw[z2];exact P13.out.args.2.1) (hh (by rw[z2];exact P13.out.args.2.2)) (by rw[z3];exact P13.out.body.1) (by rw[z3];exact P13.out.body.2.1) (hh (by rw[z3];exact P13.out.body.2.2)) (by rw[z4];exact P13.out.els.1) (by rw[z4];exact P13.out.els.2.1) (hh (by rw[z4];exact P13.out.els.2.2))
     case b1=>have:=HLJ.out;first|(rw[St.ds_length,List.length_append];unfold maxLen;simp;omega)|(unfold maxLen;simp;omega)
     case b2=>have:=HLJ.out;first|(rw[St.ds_length,List.length_append];simp;omega)|(simp;omega)
     case b3=>have:=HZ13.out;simp;omega
     case k=>
     intro v14 w14 hown hf14;have hde:St.ds (oj++[s.wth xe ob ol])++[(c.of s.frm).d]=St.ds (oj++[s.wth xe ob ol,c.of s.frm]):=by rw[St.ds_eq,St.ds_eq];simp
     rw[hde] at hown;have hal:Fr Non w13 (w13.alloc (.cells #[vu8 (c.of s.frm).kind,.string (c.of s.frm).name,.string (c.of s.frm).frm,.bool (c.of s.frm).sec,.bool (c.of s.frm).mt,.slice p.B1 (c.of s.frm).ex.length p.d1,.slice p.B2 (c.of s.frm).args.length p.d2,.slice p.B3 (c.of s.frm).body.length p.d3,.slice p.B4 (c.of s.frm).els.length p.d4] 42)):=(Zf w13).alloc _;have FW2:=Zh (show Fr (fun k=>k=eb) w w14 from(F13.out.trans hal.non).then hf14 (fun k hk h=>by have:=h.1;omega));have H14:=Zh ((H13.out.fr hal (non _)).fr hf14 (fun h=>by have:=h.1;omega));have O14:=Zh hown;clear hde hown hal hf14;go_wp2_with fail;go_roundw
     case rel=>exact⟨j+1,by go_num,by omega,FW2.out,by rw[HSN.out,HED2.out];exact H14.out,by rw[HSN.out,HED2.out];exact O14.out⟩
     case measure=>simp[intOf];omega
    ·have hed:s.ed c ej=([s.wth xe ob ol],e4):=by
      have g1:xe=s.ex++[num0]:=by rw[HXE.out,HHX.out];rfl
      have g2:e2=(ej.next.pass c s.kind).did s.mt:=by rw[HE2.out,HHX.out,←HE1.out];rfl
      rw[ed_ex c s ej HHB.out.symm HCX.out.symm HNI.out,←g2,HOB.out];simp only;rw[HOL.out,g1]
     have HED2:=Zh hed;clear hed;go_wp2_with fail;go_roundw
     case rel=>exact⟨j+1,by go_num,by omega,FW.out,by rw[HSN.out,HED2.out];exact H11.out,by rw[HSN.out,HED2.out];exact O11.out⟩
     case measure=>simp[intOf];omega
  ·go_wp2_with fail;go_ret;obtain rfl:j=l.length:=by omega
   rw[List.take_length] at hed hown;obtain⟨A0,c0,rfl,hc0⟩:=hown.slice;rw[St.ds_length] at hown ⊢;exact⟨A0,c0,rfl,hfr,hed,hown⟩
end Go.Proofs.YtpkpgmnbheenbaaGreatDoor
