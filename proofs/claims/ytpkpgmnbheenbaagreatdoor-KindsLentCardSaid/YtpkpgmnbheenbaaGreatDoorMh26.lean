/- Contracts and laws, Mh26 -/
import Derived.Test.YtpkpgmnbheenbaaGreatDoorMh01
import Derived.Test.YtpkpgmnbheenbaaGreatDoorMh10
import Derived.Test.YtpkpgmnbheenbaaGreatDoorMh24
import Derived.Deep.DeepCutAuto
import Derived.Deep.CutBlock
import Derived.Deep.RegionLaw
namespace Go.Proofs.YtpkpgmnbheenbaaGreatDoor
open Go.RowKit
set_option linter.unusedVariables false
set_option linter.unusedSimpArgs false
set_option maxHeartbeats 8000000
set_option maxRecDepth 100000
theorem StRd.of {ok:Nat→Prop} {w:World} {c:EdC} {fr:ByteArray} {B1 B2 B3 B4:Option Addr} {d1 d2 d3 d4:Nat} (h:StRd ok w c.put B1 B2 B3 B4 d1 d2 d3 d4):StRd ok w (c.of fr) B1 B2 B3 B4 d1 d2 d3 d4:=by
 obtain⟨_,_,_,_,_,z1,z2,z3,z4⟩:=of_fields c fr;exact⟨by rw[z1];exact h.ex,by rw[z2];exact h.args,by rw[z3];exact h.body,by rw[z4];exact h.els⟩
theorem in_fin {eb sb lo:Nat} {c:EdC} {p:Pd} {Vq V12 w13 w7:World} {e:EdS} {ok:Nat→Prop} {v v7:Value} {cells:Array Value} {ds:List (List D)} (hne:eb≠sb) (h12:EdAt eb c p V12 e) (g12:Fr (fun k=>k=eb) Vq V12) (hg13:Fr Non V12 w13)
  (hf7:Fr (fun k=>lo≤k∧v.ownBlock=some k) w13 w7) (b7:w7.heap[sb]? =some (.cells cells 42 (0,0))) (hown:OwnM ok lo 42 9 w7 v7 ds) (h1:eb<lo) (h2:sb<lo) (hok:∀k,ok k→k≠sb):
  (w7.setCell ⟨sb,7,none⟩ v7).heap[sb]? =some (.cells (cells.setIfInBounds 7 v7) 42 (0,0))∧EdAt eb c p (w7.setCell ⟨sb,7,none⟩ v7) e∧Fr (fun k=>k=eb∨k=sb∨lo≤k) Vq (w7.setCell ⟨sb,7,none⟩ v7)∧OwnM ok lo 42 9 (w7.setCell ⟨sb,7,none⟩ v7) v7 ds:=by
 have hset:Fr (fun k=>k=sb) w7 (w7.setCell ⟨sb,7,none⟩ v7):=(Fr.refl _ _).setCell _ _ (.inl rfl);refine⟨blk_set b7 7 v7,((h12.fr hg13 (non _)).fr hf7 (fun h=>by have:=h.1;omega)).fr hset hne,?_,hown.fr hset (fun k hk h=>by have h:k=sb:=h;omega) (fun k hk h=>hok k hk h)⟩;exact(((g12.mono (T:=fun k=>k=eb∨k=sb∨lo≤k) fun _ _ h=>.inl h).trans hg13.non).trans (hf7.mono fun _ _ h=>.inr (.inr h.1))).trans (hset.mono fun _ _ h=>.inr (.inl h))
theorem step_stM {ops:Array Oper} {o:Oper} {a:Act} {K:Act→World→Prop} {Q:Exit→Act→World→Prop} {E:Prop} {w:World} (hgd:o.guard=none) (s x:Operand)
  (ho:o.op= .call {callee:=.builtin .append,args:=#[s,x],argTypes:=#[40,40]})
  (ok:Nat→Prop) (base:Nat) (v:Value) (l:List St) (y:St) (B1 B2 B3 B4:Option Addr) (d1 d2 d3 d4:Nat) (hs:a.eval s=v) (hown:OwnM ok base 42 9 w v (St.ds l)) (hokb:∀k,ok k→k<base)
  (hy:StRd ok w y B1 B2 B3 B4 d1 d2 d3 d4) (hbase:base≤w.heap.size)
  (hx:a.eval x= .slice (some ⟨w.heap.size,0,none⟩) 1 1) (hn:l.length≤10000) (n1:Nat) (hn1:l.length+1=n1)
  (h:∀A7 c7 w7,n1≤c7→OwnM ok base 42 9 w7 (.slice A7 n1 c7) (St.ds (l++[y]))→Fr (fun k=>base≤k∧v.ownBlock=some k) w w7→K (a.put o.dst (.slice A7 n1 c7)) w7):
  if Region.wanted o (yielded ops a.tmps)=true then Oper.wp Tryz.prog o a (w.alloc (.cells #[vu8 y.kind,.string y.name,.string y.frm,.bool y.sec,.bool y.mt,.slice B1 y.ex.length d1,.slice B2 y.args.length d2,.slice B3 y.body.length d3,.slice B4 y.els.length d4] 42)) K Q else E:=by
 subst hn1;have hw:Region.wanted o (yielded ops a.tmps)=true:=by simp[Region.wanted,hgd]
 rw[if_pos hw];obtain⟨i0,h0,hz1,hz2,hz3⟩:=info_parts (show(Tryz.prog.info? 42).map (fun i=>(i.zero,i.size,i.bytes))=some (some stZ,9,144) by kernel_rfl);have hlen:(St.ds l).length=l.length:=St.ds_length l;have hfa:Fr Non w (w.alloc (.cells #[vu8 y.kind,.string y.name,.string y.frm,.bool y.sec,.bool y.mt,.slice B1 y.ex.length d1,.slice B2 y.args.length d2,.slice B3 y.body.length d3,.slice B4 y.els.length d4] 42)):=(Zf w).alloc _;obtain⟨w1,hw1⟩:∃w1,w1=w.alloc (.cells #[vu8 y.kind,.string y.name,.string y.frm,.bool y.sec,.bool y.mt,.slice B1 y.ex.length d1,.slice B2 y.args.length d2,.slice B3 y.body.length d3,.slice B4 y.els.length d4] 42):=⟨_,rfl⟩;have hnews:∀j u,[vu8 y.kind,.string y.name,.string y.frm,.bool y.sec,.bool y.mt,.slice B1 y.ex.length d1,.slice B2 y.args.length d2,.slice B3 y.body.length d3,.slice B4 y.els.length d4][j]? =some u→w1.cell? ((⟨w.heap.size,0,none⟩:Addr).add j)=some u:=by rw[hw1];exact new_cells' rfl
 rw[←hw1] at hfa ⊢;have hsz1:=hfa.size;obtain⟨xs,hrow,hcs⟩:=hown.fr hfa (fun _ _=>non _) (fun _ _=>non _);have hh:∀{sz:Nat} {A:Option Addr} {l:List (List D)},RdRows ok w sz A 0 l→RdRows (okM ok base w1 v) w1 sz A 0 l:=fun h=>h.fr hfa (fun _ _=>non _) fun k hk=>.inl hk;have hch:Chunks (okM ok base w1 v) w1 9 [y.d] [vu8 y.kind,.string y.name,.string y.frm,.bool y.sec,.bool y.mt,.slice B1 y.ex.length d1,.slice B2 y.args.length d2,.slice B3 y.body.length d3,.slice B4 y.els.length d4]:=
  chunk_st y hy.ex.1 hy.ex.2.1 (hh hy.ex.2.2) hy.args.1 hy.args.2.1 (hh hy.args.2.2) hy.body.1 hy.body.2.1 (hh hy.body.2.2) hy.els.1 hy.els.2.1 (hh hy.els.2.2)
 obtain⟨v',w',hr,hrow',hg,hwh⟩:=run_append_where (P:=Tryz.prog) w1 base 40 o.type 42 i0 stZ 9 144 (by kernel_rfl) h0 hz1 hz2 hz3 rfl (by decide) v (St.ds l).length xs hrow ⟨w.heap.size,0,none⟩ 1 1 _ (by rw[hch.length];rfl) hnews (one_st _ _ _ _ _ _ _ _ _ _ _ _ _ _ _ _ _) (by unfold maxLen;omega) (by omega) (by omega);have hfr:Fr (fun k=>base≤k∧v.ownBlock=some k) w1 w':=⟨hg.os,hg.tape,hg.output,hg.size,fun k hk hn=>hg.block k hk fun e=>hn ⟨(hrow.lt k e.symm).1,e.symm⟩⟩;have key:∀b o u,okM ok base w1 v b→w1.cell? ⟨b,o,none⟩=some u→w'.cell? ⟨b,o,none⟩=some u:=fun b o u hb hc=>hfr.cell' hc fun hx=>by
  rcases hb with hb|hb
  ·have:=hokb b hb;have hb2:base≤b:=hx.1;omega
  ·exact hb.2.2 hx.2
 have hnew:∀b,okM ok base w1 v b→okM ok base w' v' b:=fun b hb=>hb.imp id fun hb=>⟨hb.1,Nat.lt_of_lt_of_le hb.2.1 hg.size,fun hv=>by
  rcases hwh b hv with h|h
  ·exact hb.2.2 h
  ·have:=hb.2.1;omega⟩
 have hO:OwnM ok base 42 9 w' v' (St.ds l++[y.d]):=⟨xs++_,by rw[List.length_append];exact hrow',Chunks.append (hch.mono key hnew) (hcs.mono key hnew)⟩;rw[show St.ds l++[y.d]=St.ds (l++[y]) by rw[St.ds_eq,St.ds_eq,List.map_append];rfl] at hO;obtain⟨A',c',rfl,hc'⟩:=hO.slice;rw[St.ds_length,show(l++[y]).length=l.length+1 by simp] at hc' hO;rw[St.ds_length,show(l++[y]).length=l.length+1 by simp] at hr;have hK:=h A' c' w' hc' hO ((hfa.mono (T:=fun k=>base≤k∧v.ownBlock=some k) fun _ _ h=>h.elim).trans hfr);unfold Oper.wp execOp;simp only[ho,resolve,invoke,builtin,Sem.run_bind,Sem.run_pure,Result.andThen_ok,List.map_toArray,List.map_cons,List.map_nil,hs,hx,hr];exact hK
theorem stmts_in (c:EdC) (hni:c.inside=true) (hxx:c.extra=false) (p:Pd) (eb:Nat) (N:Nat):∀(l:List St) (d:Nat) (e:EdS) (ok:Nat→Prop) (A:Option Addr) (cc:Nat) (w:World),St.oks l d=true→St.sizes l≤N→St.sizes l≤2000→EB e (St.sizes l)→(∀k,ok k→k<w.heap.size∧k≠eb)→EdAt eb c p w e→
  StRd ok w c.put p.B1 p.B2 p.B3 p.B4 p.d1 p.d2 p.d3 p.d4→RdRows ok w 9 A 0 (St.ds l)→l.length≤cc→l.length*144≤reach→
  Calls Tryz.prog 45 #[.pointer (some ⟨eb,0,none⟩),.slice A l.length cc] w fun r w'=>∃A' c',r= .returned (.slice A' (St.eds c l e).1.length c')∧Fr (fun k=>k=eb) w w'∧EdAt eb c p w' (St.eds c l e).2∧OwnM ok w.heap.size 42 9 w' (.slice A' (St.eds c l e).1.length c') (St.ds (St.eds c l e).1):=by
 have h2:(c.inside&&c.extra)=false:=by rw[hni,hxx];rfl
 have HXX:=Zh hxx;clear hxx;have HNI:=Zh hni;clear hni
 induction N with
 |zero=>
  intro l d e ok A cc w _ hN _ _ _ hE _ _ _ _;obtain rfl:l=[]:=by cases l with|nil=>rfl|cons s l=>cases s;simp[St.sizes,St.size] at hN
  go_enter Tryz.func45,Tryz.ntmps45;go_wp2_with fail;refine wp_loop_rounds 1 ?_;rw[rounds_succ];go_wp2_with fail;go_ret;rw[St.eds];exact⟨none,0,rfl,Fr.refl _ _,hE,OwnM.nil _ _ _ _ _⟩
 |succ N ih=>
 intro l d e ok A cc w hoks hN hM hB hok hE hP hr hlc hc;have HOKS:=Zh hoks;clear hoks;have hlen:l.length≤2000:=Nat.le_trans (len_sizes l) hM;have heb:eb<w.heap.size:=blk_lt hE;have IH:=Zh ih;clear ih;have HR0:=Zh hr;clear hr;have HP:=Zh hP;clear hP;have HC:=Zh hc;clear hc;have HLC:=Zh hlc;clear hlc;have HM:=Zh hM;clear hM;have HNN:=Zh hN;clear hN;have HBB:=Zh hB;clear hB;have HK:=Zh hok;clear hok;have HE:=Zh hE;clear hE;go_enter Tryz.func45,Tryz.ntmps45;go_wp2_with fail
 go_loopw [5,6] (fun v i wr=>∃j:Nat,i= .int .i64 j∧j≤l.length∧Fr (fun k=>k=eb) w wr∧EdAt eb c p wr (St.eds c (l.take j) e).2∧OwnM ok w.heap.size 42 9 wr v (St.ds (St.eds c (l.take j) e).1)) (fun _ i _=>l.length-(intOf i).toNat)
 case atStart=>exact⟨0,rfl,by omega,Fr.refl _ _,by rw[List.take_zero,St.eds];exact HE.out,by rw[List.take_zero,St.eds];exact OwnM.nil _ _ _ _ _⟩
 case round=>
  obtain⟨j,rfl,hj,hfr,hed,hown⟩:=hrel;obtain⟨wo,rfl⟩:∃wo:World,wo=wr:=⟨_,rfl⟩;have hz:w.heap.size≤wo.heap.size:=hfr.size;have hbd:=eds_bd c h2 (l.take j) e;have hln:=eds_length c h2 (l.take j) e;have hsj:=sizes_take_le l j;by_cases hlt:j<l.length
  ·obtain⟨oj,ej,hoe⟩:∃oj ej,St.eds c (l.take j) e=(oj,ej):=⟨_,_,rfl⟩;have hsn:=eds_snoc c l e j hlt;rw[hoe] at hed hown hbd hln hsn;simp only at hed hown hbd hln hsn;have hlj:oj.length≤4000:=by have:=hln.2;rw[List.length_take] at this;omega
   obtain⟨A0,c0,rfl,hc0⟩:=hown.slice;rw[St.ds_length] at hc0 hown ⊢;have hst:=sizes_take l j hlt;have hst2:=sizes_take_le l (j+1);obtain⟨b,o1,A1,c1,A2,c2,A3,c3,A4,c4,rfl,hb,e0,e1,e2,e3,e4,e5,e6,e7,e8,⟨p1,q1,r1⟩,⟨p2,q2,r2⟩,⟨p3,q3,r3⟩,⟨p4,q4,r4⟩⟩:=at_st (HR0.out.fr hfr (fun k hk=>(HK.out k hk).2) (fun _ h=>h)) j hlt;obtain⟨s,hs⟩:∃s,l[j]=s:=⟨_,rfl⟩;rw[hs] at e0 e1 e2 e3 e4 e5 e6 e7 e8 p1 q1 r1 p2 q2 r2 p3 q3 r3 p4 q4 r4 hsn hst;have hs1:=St.size_eq s;have hso:St.ok s d=true:=by
    rw[←hs];cases hx:St.ok l[j] d with
    |true=>rfl
    |false=>have:=oks_false l d j hlt hx;rw[HOKS.out] at this;cases this
   have HEX8:=Zh (show s.ex.length≤8∧St.oks s.body (d+1)=true∧St.oks s.els (d+1)=true by
    rw[St.ok_eq] at hso;simp only[Bool.and_eq_true] at hso;refine⟨?_,hso.1.2,hso.2⟩;have:=hso.1.1.2;cases s with
    |mk k nm fr se mt ex args body els=>exact(form_len8 this))
   clear hso;have hEB:EB ej (1+St.sizes s.body+St.sizes s.els):=HBB.out.go hbd (by omega);have hbN:St.sizes s.body≤N∧St.sizes s.els≤N∧St.sizes s.body≤2000∧St.sizes s.els≤2000:=by have:=HNN.out;have:=HM.out;omega
   have Hoe:=Zh hoe;have HSN:=Zh hsn;have HEB:=Zh hEB;have HBN:=Zh hbN;have HLJ:=Zh hlj;have HC0:=Zh hc0
   have R1:=Zh r1;have R2:=Zh r2;have R3:=Zh r3;have R4:=Zh r4
   have Q1:=Zh (And.intro p1 q1);have Q2:=Zh (And.intro p2 q2);have Q3:=Zh (And.intro p3 q3);have Q4:=Zh (And.intro p4 q4)
   have HED:=Zh hed;have HOW:=Zh hown;have HFR:=Zh hfr
   clear hoe hsn hEB hbN hlj hc0 r1 r2 r3 r4 p1 q1 p2 q2 p3 q3 p4 q4 hed hown hfr hbd hln hsj hst hst2 hs1 hs;obtain⟨sb,hsb⟩:∃sb,sb=wo.heap.size:=⟨_,rfl⟩;obtain⟨W1,HW1⟩:∃W1,W1=wo.alloc (.cells #[vu8 s.kind,.string s.name,.string s.frm,.bool s.sec,.bool s.mt,.slice A1 s.ex.length c1,.slice A2 s.args.length c2,.slice A3 s.body.length c3,.slice A4 s.els.length c4] 42):=⟨_,rfl⟩;have hf1:Fr (fun k=>k=eb) wo W1:=by rw[HW1];exact(Fr.refl _ wo).alloc _
   have hb1:W1.heap[sb]? =some (.cells #[vu8 s.kind,.string s.name,.string s.frm,.bool s.sec,.bool s.mt,.slice A1 s.ex.length c1,.slice A2 s.args.length c2,.slice A3 s.body.length c3,.slice A4 s.els.length c4] 42 (0,0)):=by rw[HW1,hsb];exact blk_new _ _ _
   have H1:=Zh (show EdAt eb c p W1 ej by rw[HW1];exact blk_old HED.out);have B1:=Zh hb1;have F1:=Zh hf1
   have HNE:=Zh (show eb≠sb by omega);have HSB:=Zh hsb;clear hb1 hf1 hsb;have q15:=H1.out.c15;have qf:=H1.out.fz;have hn0:=HEB.out.n0;have hn1:=HEB.out.n1;obtain⟨W2,HW2⟩:∃W2,W2=W1.setCell ⟨eb,15,none⟩ (.int .i64 (ej.n+1)):=⟨_,rfl⟩;have hf2:Fr (fun k=>k=eb) W1 W2:=by rw[HW2];exact(Fr.refl _ W1).setCell _ _ (.inl rfl)
   have H2:=Zh (show EdAt eb c p W2 ej.next by rw[HW2];exact blk_set H1.out 15 _);have B2:=Zh (Zb B1.out hf2 (fun e=>HNE.out e.symm));have F2:=Zh (F1.out.trans hf2);clear hf2;go_upto_region 6 with fail;rw[←HSB.out,←HW1];clear HW1 e0 e1 e2 e3 e4 e5 e6 e7 e8;go_upto_region 7 with fail;rw[←HW2];clear HW2 q15 qf hn0 hn1;have x0:W2.cell? ⟨sb,0,none⟩=some (vu8 s.kind):=(Zc B2.out).1 0 _ rfl;have q0:=H2.out.c0;have q1:=H2.out.c1;have q14:=H2.out.c14;have qf:=H2.out.fz;have hk0: -100000≤ej.next.K:=by have:=HEB.out.k0;show -100000≤ej.K;omega
   have hk1:ej.next.K≤100000:=HEB.out.k1;obtain⟨W2,rfl⟩:∃x:World,x=W2:=⟨_,rfl⟩;go_upto_region 8 with fail
   go_cut [39] (fun v39 wx=>Fr Non W2 wx∧v39= .bool (ej.next.hit c s.kind))
   case first=>
    by_cases hk:s.kind.toNat=c.kd.toNat
    ·have hkb:((s.kind.toNat:Int)==(c.kd.toNat:Int))=true:=by rw[hk];simp
     have hkc:(s.kind.toNat==c.kd.toNat)=true:=by rw[hk];simp
     have HKC:=Zh hkc;clear hkc hk;cases hd:ej.next.done
     ·have HD:=Zh hd;rw[hd] at q14;clear hd
      go_quiet (fail)
      go_wp2_with fail
      go_meet
      exact⟨(Zf W2).drewM _,by unfold EdS.hit;rw[HD.out,HKC.out];rfl⟩
     ·have HD:=Zh hd;rw[hd] at q14;clear hd
      go_quiet (fail)
      go_wp2_with fail
      go_meet
      exact⟨(Zf W2).drewM _,by unfold EdS.hit;rw[HD.out];simp⟩
    ·have hkb:((s.kind.toNat:Int)==(c.kd.toNat:Int))=false:=by rw[beq_eq_false_iff_ne];omega
     have hkc:(s.kind.toNat==c.kd.toNat)=false:=by rw[beq_eq_false_iff_ne];exact hk
     have HKC:=Zh hkc;clear hkc hk
     go_quiet (fail)
     go_wp2_with fail
     go_meet
     exact⟨(Zf W2).drewM _,by unfold EdS.hit;rw[HKC.out];rfl⟩
   case rest=>
   obtain⟨hfc,rfl⟩:=hcut;obtain⟨V2,rfl⟩:∃x:World,x=wc:=⟨_,rfl⟩;have H3:=Zh (H2.out.fr hfc (non _));have B3:=Zh (Zb B2.out hfc (non _));have F3:=Zh (F2.out.trans hfc.non);obtain⟨hit,hhit⟩:∃x,x=ej.next.hit c s.kind:=⟨_,rfl⟩;rw[←hhit];have HHIT:=Zh hhit;clear hhit x0 q14 q0 q1 qf hfc H2 B2 F2;have q1:=H3.out.c1;have qf:=H3.out.fz
   go_upto_if 39 with fail
   go_cut [8] (fun v8 wx=>v8= .bool (ej.next.here c s.kind)∧EdAt eb c p wx (ej.next.pass c s.kind)∧Fr (fun k=>k=eb) V2 wx)
   case first=>
    cases hit
    ·go_wp2_with fail
     go_meet
     exact⟨by unfold EdS.here;rw[←HHIT.out];rfl,by unfold EdS.pass;rw[←HHIT.out];exact H3.out,Fr.refl _ _⟩
    ·go_wp2_with fail
     go_meet
     exact⟨by unfold EdS.here;rw[←HHIT.out,Bool.true_and],by unfold EdS.pass;rw[←HHIT.out,if_pos rfl];exact blk_set H3.out 1 _,(Fr.refl _ _).setCell _ _ (.inl rfl)⟩
   case rest=>
   obtain⟨rfl,h4,hfc⟩:=hcut;obtain⟨V4,rfl⟩:∃x:World,x=wc:=⟨_,rfl⟩;have B4:=Zh (Zb B3.out hfc (fun e=>HNE.out e.symm));have F4:=Zh (F3.out.trans hfc);obtain⟨hb,hhb⟩:∃x,x=ej.next.here c s.kind:=⟨_,rfl⟩;obtain⟨e1,he1⟩:∃x,x=ej.next.pass c s.kind:=⟨_,rfl⟩;have hpn:=edr_next ej c s.kind;rw[←hhb];rw[←he1] at h4 hpn;have HB1:=Zh (show EB e1 (St.sizes s.body+St.sizes s.els) from⟨by have:=HEB.out.n0;omega,by have:=HEB.out.n1;omega,by have:=HEB.out.k0;omega,by have:=HEB.out.k1;omega⟩);have HS1:=Zh (show e1.n+2*(St.sizes s.body+St.sizes s.els:Nat)+1≤100000 by have:=HEB.out.n1;omega);have HHB:=Zh hhb;have HE1:=Zh he1;have H4:=Zh h4
   clear hhb he1 hpn h4 hfc q1 qf hk0 hk1 H3 B3 F3;obtain⟨xe,hxe⟩:∃x,x=s.ex:=⟨_,rfl⟩;obtain⟨e2,he2⟩:∃x,x=e1:=⟨_,rfl⟩;have q12:=H4.out.c12;rw[HXX.out] at q12;go_upto_region 11 with fail
   go_cut [58] (fun v58 wx=>wx=V4∧v58= .bool false)
   case first=>
    cases hb;all_goals
     go_wp2_with fail
     go_meet
     exact⟨rfl,rfl⟩
   case rest=>
   obtain⟨rfl,rfl⟩:=hcut;clear q12;obtain⟨V6,rfl⟩:∃x:World,x=wc:=⟨_,rfl⟩;obtain⟨A5,hA5⟩:∃x,x=A1:=⟨_,rfl⟩;obtain⟨c5,hc5⟩:∃x,x=c1:=⟨_,rfl⟩;have B6:=Zh (show V6.heap[sb]? =some (.cells #[vu8 s.kind,.string s.name,.string s.frm,.bool s.sec,.bool s.mt,.slice A5 xe.length c5,.slice A2 s.args.length c2,.slice A3 s.body.length c3,.slice A4 s.els.length c4] 42 (0,0)) by rw[hxe,hA5,hc5];exact B4.out);have H6:=Zh (show EdAt eb c p V6 e2 by rw[he2];exact H4.out);have F6:=F4;have X6:=Zh (show xe.length≤c5∧xe.length*64≤reach by rw[hxe,hc5];exact Q1.out);have RX:=Zh (show RdRows (okL ok (sb+1) V6) V6 5 A5 0 (Ex.ds xe) by rw[hxe,hA5];exact R1.out.fr F4.out (fun k hk=>(HK.out k hk).2) fun k hk=>.inl hk);have HXE:=Zh hxe;have HE2:=Zh he2
   clear hxe he2 hA5 hc5;have HB2:=Zh (show EB e2 (St.sizes s.body+St.sizes s.els) by
    rw[HE2.out];exact HB1.out)
   have HS2:=Zh (show e2.n+2*(St.sizes s.body+St.sizes s.els:Nat)+1≤100000 by rw[HE2.out];exact HS1.out);clear H4 B4 F4 HB1;have x7:V6.cell? ⟨sb,7,none⟩=some (.slice A3 s.body.length c3):=(Zc B6.out).1 7 _ rfl;have xf:=(Zc B6.out).2;go_wp2_with fail;refine(IH.out s.body (d+1) e2 ok A3 c3 V6 HEX8.out.2.1 HBN.out.1 HBN.out.2.2.1 (HB2.out.le (by omega)) (fun k hk=>⟨by have:=(HK.out k hk).1;have:=F6.out.size;omega,(HK.out k hk).2⟩) H6.out (HP.out.fr (HFR.out.trans F6.out) (fun k hk=>(HK.out k hk).2)) (R3.out.fr F6.out (fun k hk=>(HK.out k hk).2) fun _ h=>h) Q3.out.1 Q3.out.2).mono ?_;rintro r w7 ⟨Aq,cq,rfl,hf7,h7,ho7⟩;obtain⟨oq,eq3,hob⟩:∃oq eq3,St.eds c s.body e2=(oq,eq3):=⟨_,_,rfl⟩;have hbd7:=eds_bd c h2 s.body e2;have hln7:=(eds_length c h2 s.body e2).2;have hls7:=len_sizes s.body;rw[hob] at h7 ho7 hbd7 hln7 ⊢;simp only at h7 ho7 hbd7 hln7 ⊢;have HCq:=Zh (show oq.length≤cq by obtain⟨_,_,ee,h⟩:=ho7.slice;injection ee with _ _ eq3;rw[St.ds_length] at h;omega);have B7:=Zh (Zb B6.out hf7 (fun e=>HNE.out e.symm));have F7:=Zh (F6.out.trans hf7);have hzb:=blk_lt B6.out;have hsb0:=HSB.out;have RX7:=Zh (RX.out.fr hf7 (fun k hk e=>by
    have e:k=eb:=e;rcases hk with hk|hk
    ·exact(HK.out k hk).2 e
    ·have:=hk.1;omega) fun k hk=>hk.imp id fun hk=>(hk:sb+1≤k∧k<V6.heap.size))
   have H7:=Zh h7;have O7:=Zh ho7
   have HOBq:=Zh hob;have HLNq:=Zh (And.intro hln7 hls7)
   have HSQ:=Zh (show eq3.n+1+2*(St.sizes s.els:Nat)≤100000 by have:=hbd7.n1;have:=HS2.out;omega);have HFQ:=Zh hf7.size;have HBq:=Zh (HB2.out.go hbd7 (Nat.le_refl _));clear hf7 h7 ho7 hob hbd7 hln7 hls7 x7 xf B6 H6;have x7:w7.cell? ⟨sb,7,none⟩=some (.slice A3 s.body.length c3):=(Zc B7.out).1 7 _ rfl;have xf:=(Zc B7.out).2;obtain⟨Vq,HVq⟩:∃Vq,Vq=w7.setCell ⟨sb,7,none⟩ (.slice Aq oq.length cq):=⟨_,rfl⟩;have hf8:Fr (fun k=>k=sb) w7 Vq:=by rw[HVq];exact(Fr.refl (fun k=>k=sb) w7).setCell ⟨sb,7,none⟩ _ (.inl rfl)
   have Bq:=Zh (show Vq.heap[sb]? =some (.cells #[vu8 s.kind,.string s.name,.string s.frm,.bool s.sec,.bool s.mt,.slice A5 xe.length c5,.slice A2 s.args.length c2,.slice Aq oq.length cq,.slice A4 s.els.length c4] 42 (0,0)) by rw[HVq];exact blk_set B7.out 7 _);have Hq:=Zh (H7.out.fr hf8 HNE.out);have Fq:=Zh (F7.out.then hf8 (S:=fun k=>k=eb) fun k hk e=>by have e:k=sb:=e;omega);have RXq:=Zh (RX7.out.fr hf8 (fun k hk e=>by
    have e:k=sb:=e;rcases hk with hk|hk
    ·have:=(HK.out k hk).1;omega
    ·have:=hk.1;omega) fun k hk=>hk.imp id fun hk=>(hk:sb+1≤k∧k<V6.heap.size))
   have Oq:=Zh (O7.out.fr hf8 (fun k hk e=>by have e:k=sb:=e;omega) (fun k hk e=>by have e:k=sb:=e;have:=(HK.out k hk).1;omega));have HZB:=Zh hzb;have HVS:=Zh hf8.size;clear hf8 hzb hsb0;go_upto_region 16 with fail;rw[←HVq];clear HVq x7 xf;have q11:=Hq.out.c11;rw[HNI.out] at q11
   go_cut [87] (fun v87 wx=>wx=Vq∧v87= .bool hb)
   case first=>
    cases hb;all_goals
     go_wp2_with fail
     go_meet
     exact⟨rfl,rfl⟩
   case rest=>
   obtain⟨rfl,rfl⟩:=hcut;obtain⟨Vq,rfl⟩:∃x:World,x=wc:=⟨_,rfl⟩;clear q11;have hvz:=Fq.out.size;have hsz6:=HFQ.out;have HVZ:=Zh (Nat.le_trans hsz6 HVS.out);obtain⟨ob,hob⟩:∃x,x=(if hb then oq++[c.of s.frm] else oq):=⟨_,rfl⟩;obtain⟨e3,he3⟩:∃x,x=(if hb then eq3.next.did s.mt else eq3):=⟨_,rfl⟩;have HOBX:=Zh hob;have HE3:=Zh he3
   clear hob he3 hvz hsz6;have x7:Vq.cell? ⟨sb,7,none⟩=some (.slice Aq oq.length cq):=(Zc Bq.out).1 7 _ rfl;have xf:=(Zc Bq.out).2;have q13:=Hq.out.c13;have q14:=Hq.out.c14;have q15:=Hq.out.c15;have qf:=Hq.out.fz;have hn0:=HBq.out.n0;have hn1:=HBq.out.n1
   go_upto_if 87 with fail
   go_cut [] (fun wx=>∃A7' c7',wx.heap[sb]? =some (.cells #[vu8 s.kind,.string s.name,.string s.frm,.bool s.sec,.bool s.mt,.slice A5 xe.length c5,.slice A2 s.args.length c2,.slice A7' ob.length c7',.slice A4 s.els.length c4] 42 (0,0))∧EdAt eb c p wx e3∧Fr (fun k=>k=eb∨k=sb∨V6.heap.size≤k) Vq wx∧ob.length≤c7'∧OwnM ok V6.heap.size 42 9 wx (.slice A7' ob.length c7') (St.ds ob))
   case first=>
    cases hb
    ·obtain rfl:ob=oq:=by rw[HOBX.out];rfl
     obtain rfl:e3=eq3:=by rw[HE3.out];rfl
     go_wp2_with fail
     go_meet
     exact⟨Aq,cq,Bq.out,Hq.out,Fr.refl _ _,HCq.out,Oq.out⟩
    ·obtain⟨V12,HV12⟩:∃V12,V12=((Vq.setCell ⟨eb,15,none⟩ (.int .i64 (eq3.n+1))).setCell ⟨eb,13,none⟩ (.int .i64 (eq3.n+1))).setCell ⟨eb,14,none⟩ (.bool true):=⟨_,rfl⟩;have hf12:Fr (fun k=>k=eb) Vq V12:=by rw[HV12];exact(((Fr.refl (fun k=>k=eb) Vq).setCell ⟨eb,15,none⟩ _ (.inl rfl)).setCell ⟨eb,13,none⟩ _ (.inl rfl)).setCell ⟨eb,14,none⟩ _ (.inl rfl)
     have H12:=Zh (show EdAt eb c p V12 (eq3.next.did s.mt) by rw[HV12];exact blk_set (blk_set (blk_set Hq.out 15 _) 13 _) 14 _);have B12:=Zh (Zb Bq.out hf12 (fun e=>HNE.out e.symm));have F12:=Zh (Fq.out.trans hf12);have O12:=Zh (Oq.out.fr hf12 (fun k hk e=>by have e:k=eb:=e;have:=F6.out.size;omega) (fun k hk=>(HK.out k hk).2));have P12:=Zh (HP.out.fr (HFR.out.trans F12.out) (fun k hk=>(HK.out k hk).2));have G12:=Zh hf12;have HZ12:=Zh (Nat.le_trans HVZ.out hf12.size);clear hf12;go_upto_region 20 with fail;rw[←HV12];clear HV12 x7 xf q13 q14 q15 qf hn0 hn1;clear IH HSN HEB HC0 R1 R2 R3 R4 Q1 Q2 Q3 Q4 HED HOW RXq X6 RX HEX8 Hoe HR0;have OF:=Zh (fun w' (hf:Fr Non V12 w')=>of_any c p (eq3.next.did s.mt) eb w' (s.wth xe oq s.els) A5 A2 Aq A4 c5 c2 cq c4 (H12.out.fr hf (non _)));have hnq:oq.length≤10000:=by have:=HLNq.out;have:=HBN.out;omega
     have hsb0:=HSB.out;have hzq:=HZB.out;have l0:=(Zc B12.out).1 0 _ rfl;have l1:=(Zc B12.out).1 1 _ rfl;have l2:=(Zc B12.out).1 2 _ rfl;have l3:=(Zc B12.out).1 3 _ rfl;have l4:=(Zc B12.out).1 4 _ rfl;have l5:=(Zc B12.out).1 5 _ rfl;have l6:=(Zc B12.out).1 6 _ rfl;have l7:=(Zc B12.out).1 7 _ rfl;have l8:=(Zc B12.out).1 8 _ rfl;have HNQ:=Zh hnq;have HS0:=Zh hsb0;have HZQ:=Zh hzq
     clear hnq hsb0 hzq
     go_region_law (first|(refine step_stM rfl (.tmp 106) (.tmp 110) rfl ok V6.heap.size (.slice Aq oq.length cq) oq (c.of s.frm) p.B1 p.B2 p.B3 p.B4 p.d1 p.d2 p.d3 p.d4 rfl (O12.out.fr hg13 (fun _ _=>non _) (fun _ _=>non _)) (fun k hk=>by have:=(HK.out k hk).1;have:=F6.out.size;omega) (P12.out.fr hg13 (fun _ _=>non _)).of (Nat.le_trans HZ12.out hg13.size) rfl HNQ.out (oq.length+1) rfl ?_;intro A7 c7 w7 hc7 hown7 hf7;have b7:=Zb b13 hf7 (fun h=>by have h1:=h.1;have:=HZQ.out;omega);have s7:=(Zc b7).1 7 _ rfl;have sf:=(Zc b7).2)|(go_simp;go_at_call 71;refine(OF.out _ (Zf V12).drew).mono ?_;rintro r13 w13 ⟨rfl,hf13⟩;rw[show(s.wth xe oq s.els).frm=s.frm from rfl];unfold stV;have hg13:Fr Non V12 w13:=(Zf V12).drew.trans hf13;have b13:=Zb B12.out hg13 (non _);have m7:=(Zc b13).1 7 _ rfl;have a7:(w13.alloc (.cells #[vu8 (c.of s.frm).kind,.string (c.of s.frm).name,.string (c.of s.frm).frm,.bool (c.of s.frm).sec,.bool (c.of s.frm).mt,.slice p.B1 (c.of s.frm).ex.length p.d1,.slice p.B2 (c.of s.frm).args.length p.d2,.slice p.B3 (c.of s.frm).body.length p.d3,.slice p.B4 (c.of s.frm).els.length p.d4] 42)).cell? ⟨sb,7,none⟩=some (.slice Aq oq.length cq):=(Zc (Zb b13 ((Zf w13).alloc _) (non _))).1 7 _ rfl))
     all_goals
      go_wp2_with fail
      go_meet
      obtain⟨u1,u2,u3,u4⟩:=in_fin HNE.out H12.out G12.out hg13 hf7 b7 hown7 (by have:=F6.out.size;omega) HZQ.out (fun k hk=>by have:=(HK.out k hk).1;have:=HS0.out;omega);obtain rfl:ob=oq++[c.of s.frm]:=by rw[HOBX.out];rfl
      obtain rfl:e3=eq3.next.did s.mt:=by rw[HE3.out];rfl
      rw[show(oq++[c.of s.frm]).length=oq.length+1 by simp];exact⟨A7,c7,u1,u2,u3,hc7,u4⟩
   case rest=>
   obtain⟨A7,c7,hbk,hed,hfc,hcc,hoo⟩:=hcut;obtain⟨V8,rfl⟩:∃x:World,x=wc:=⟨_,rfl⟩;have hsb0:=HSB.out;have hzq:=HZB.out;have HC7:=Zh hcc;have B8:=Zh hbk;have H8:=Zh hed;have O8:=Zh hoo
   have F8:=Zh (Fq.out.then hfc (S:=fun k=>k=eb) fun k hk e=>by
    rcases e with e|e|e
    ·exact e
    ·exfalso;omega
    ·exfalso;have:=F6.out.size;omega)
   have RX8:=Zh (RXq.out.fr hfc (fun k hk e=>by
    rcases hk with hk|hk
    ·have h1:=(HK.out k hk).1;rcases e with e|e|e
     ·exact(HK.out k hk).2 e
     ·omega
     ·have:=F6.out.size;omega
    ·rcases e with e|e|e
     ·have:=hk.1;omega
     ·have:=hk.1;omega
     ·have:=hk.2;omega) fun k hk=>hk.imp id fun hk=>(⟨hk.1,by have:=hk.2;have:=HVZ.out;have:=hfc.size;omega⟩:sb+1≤k∧k<V8.heap.size))
   have HLN7:=Zh (show ob.length≤2*s.body.length+1∧s.body.length≤St.sizes s.body from⟨by
    have:=HLNq.out.1;rw[HOBX.out];split
    ·rw[List.length_append];simp;omega
    ·omega,HLNq.out.2⟩)
   have HB3:=Zh (show EB e3 (St.sizes s.els) by
    rw[HE3.out];split
    ·exact⟨by have:=HBq.out.n0;show 0≤eq3.n+1;omega,by have:=HSQ.out;show eq3.n+1+2*(St.sizes s.els:Nat)≤100000;omega,HBq.out.k0,HBq.out.k1⟩
    ·exact HBq.out)
   clear hbk hed hfc hcc hoo hsb0 hzq x7 xf q13 q14 q15 qf hn0 hn1;have x8:V8.cell? ⟨sb,8,none⟩=some (.slice A4 s.els.length c4):=(Zc B8.out).1 8 _ rfl;have xf:=(Zc B8.out).2;go_wp2_with fail;refine(IH.out s.els (d+1) e3 ok A4 c4 V8 HEX8.out.2.2 HBN.out.2.1 HBN.out.2.2.2 HB3.out (fun k hk=>⟨by have:=(HK.out k hk).1;have:=F8.out.size;omega,(HK.out k hk).2⟩) H8.out (HP.out.fr (HFR.out.trans F8.out) (fun k hk=>(HK.out k hk).2)) (R4.out.fr F8.out (fun k hk=>(HK.out k hk).2) fun _ h=>h) Q4.out.1 Q4.out.2).mono ?_;rintro r w9 ⟨A9,c9,rfl,hf9,h9,ho9⟩;obtain⟨ol,e4,hol⟩:∃ol e4,St.eds c s.els e3=(ol,e4):=⟨_,_,rfl⟩;have hbd9:=eds_bd c h2 s.els e3;have hln9:=(eds_length c h2 s.els e3).2;have hls9:=len_sizes s.els;rw[hol] at h9 ho9 hbd9 hln9 ⊢;simp only at h9 ho9 hbd9 hln9 ⊢;have HC9:=Zh (show ol.length≤c9 by obtain⟨_,_,ee,h⟩:=ho9.slice;injection ee with _ _ e3;rw[St.ds_length] at h;omega);have hsb0:=HSB.out;have hzb:=blk_lt B8.out;have B9:=Zh (Zb B8.out hf9 (fun e=>HNE.out e.symm));have F9:=Zh (F8.out.trans hf9);have RX9:=Zh (RX8.out.fr hf9 (fun k hk e=>by
    have e:k=eb:=e;rcases hk with hk|hk
    ·exact(HK.out k hk).2 e
    ·have:=hk.1;omega) fun k hk=>hk.imp id fun hk=>(⟨hk.1,Nat.lt_of_lt_of_le hk.2 hf9.size⟩:sb+1≤k∧k<w9.heap.size))
   have RB9:=Zh (O8.out.rows.fr hf9 (fun k hk e=>by
    have e:k=eb:=e;rcases hk with hk|hk
    ·exact(HK.out k hk).2 e
    ·have:=hk.1;have:=HZB.out;omega) fun k hk=>hk.imp id fun hk=>(⟨by have:=hk.1;have:=HZB.out;omega,Nat.lt_of_lt_of_le hk.2 hf9.size⟩:sb+1≤k∧k<w9.heap.size))
   have RL9:=Zh (ho9.rows.fr (Fr.refl Non w9) (fun _ _=>non _) fun k hk=>hk.imp id fun hk=>(⟨by have:=hk.1;omega,hk.2⟩:sb+1≤k∧k<w9.heap.size));have H9:=Zh h9;have HOL:=Zh hol;have HLN9:=Zh (And.intro hln9 hls9)
   have HB4:=Zh (HB3.out.go (k:=0) hbd9 (Nat.le_refl _));clear hf9 h9 ho9 hol hbd9 hln9 hls9 x8 xf B8 H8 F8 RX8 O8;have x8:w9.cell? ⟨sb,8,none⟩=some (.slice A4 s.els.length c4):=(Zc B9.out).1 8 _ rfl;have xf:=(Zc B9.out).2;obtain⟨V10,HV10⟩:∃V10,V10=w9.setCell ⟨sb,8,none⟩ (.slice A9 ol.length c9):=⟨_,rfl⟩;have hf10:Fr (fun k=>k=sb) w9 V10:=by rw[HV10];exact(Fr.refl (fun k=>k=sb) w9).setCell ⟨sb,8,none⟩ _ (.inl rfl)
   have B10:=Zh (show V10.heap[sb]? =some (.cells #[vu8 s.kind,.string s.name,.string s.frm,.bool s.sec,.bool s.mt,.slice A5 xe.length c5,.slice A2 s.args.length c2,.slice A7 ob.length c7,.slice A9 ol.length c9] 42 (0,0)) by rw[HV10];exact blk_set B9.out 8 _);have H10:=Zh (H9.out.fr hf10 HNE.out);have F10:=Zh (F9.out.then hf10 (S:=fun k=>k=eb) fun k hk e=>by have e:k=sb:=e;omega);have hrr:∀{sz:Nat} {A:Option Addr} {l:List (List D)},RdRows (fun k=>ok k∨(sb+1≤k∧k<w9.heap.size)) w9 sz A 0 l→RdRows (okL ok (sb+1) V10) V10 sz A 0 l:=fun h=>h.fr hf10 (fun k hk e=>by
    have e:k=sb:=e;rcases hk with hk|hk
    ·have:=(HK.out k hk).1;omega
    ·have:=hk.1;omega) fun k hk=>hk.imp id fun hk=>⟨hk.1,Nat.lt_of_lt_of_le hk.2 hf10.size⟩
   have RX10:=Zh (hrr RX9.out);have RB10:=Zh (hrr RB9.out);have RL10:=Zh (hrr RL9.out)
   have RG10:=Zh (R2.out.fr F10.out (fun k hk=>(HK.out k hk).2) (fun k hk=>(.inl hk:okL ok (sb+1) V10 k)));clear hf10 hrr hsb0 hzb;go_upto_region 22 with fail;rw[←HV10];clear HV10 x8 xf;have l0:=(Zc B10.out).1 0 _ rfl;have l1:=(Zc B10.out).1 1 _ rfl;have l2:=(Zc B10.out).1 2 _ rfl;have l3:=(Zc B10.out).1 3 _ rfl;have l4:=(Zc B10.out).1 4 _ rfl;have l5:=(Zc B10.out).1 5 _ rfl;have l6:=(Zc B10.out).1 6 _ rfl;have l7:=(Zc B10.out).1 7 _ rfl;have l8:=(Zc B10.out).1 8 _ rfl;have hz10:wo.heap.size≤V10.heap.size:=F10.out.size;have HZ10:=Zh hz10;clear hz10;go_wp2_with (at_builtin;refine appM_st rfl _ _ rfl ok w.heap.size (.slice A0 oj.length c0) (St.ds oj) rfl ?o (fun k hk=>(HK.out k hk).1) ⟨V10.heap.size,0,none⟩ 1 1 rfl [(s.wth xe ob ol).d] [vu8 s.kind,.string s.name,.string s.frm,.bool s.sec,.bool s.mt,.slice A5 xe.length c5,.slice A2 s.args.length c2,.slice A7 ob.length c7,.slice A9 ol.length c9] ?ch rfl ?nc (one_st _ _ _ _ _ _ _ _ _ _ _ _ _ _ _ _ _) ?b1 ?b2 ?b3 ?k)
   case o=>exact(HOW.out.fr F10.out (fun k hk e=>by have e:k=eb:=e;omega) (fun k hk=>(HK.out k hk).2)).fr ((Zf V10).alloc _) (fun _ _=>non _) (fun _ _=>non _)
   case nc=>exact new_cells' rfl
   case ch=>
    have hv:=HOW.out.lt;have hsb0:=HSB.out;have hz:=HFR.out.size;have hh:∀{sz:Nat} {A:Option Addr} {l:List (List D)},RdRows (okL ok (sb+1) V10) V10 sz A 0 l→RdRows (okM ok w.heap.size (V10.alloc (.cells #[vu8 s.kind,.string s.name,.string s.frm,.bool s.sec,.bool s.mt,.slice A5 xe.length c5,.slice A2 s.args.length c2,.slice A7 ob.length c7,.slice A9 ol.length c9] 42)) (.slice A0 oj.length c0)) (V10.alloc (.cells #[vu8 s.kind,.string s.name,.string s.frm,.bool s.sec,.bool s.mt,.slice A5 xe.length c5,.slice A2 s.args.length c2,.slice A7 ob.length c7,.slice A9 ol.length c9] 42)) sz A 0 l:=fun h=>h.fr ((Zf V10).alloc _) (fun _ _=>non _) fun k hk=>hk.imp id fun hk=>⟨by have:=hk.1;omega,by have:=hk.2;simp;omega,fun ee=>by have:=(hv k ee).2;have:=hk.1;omega⟩;exact chunk_st (s.wth xe ob ol) X6.out.1 X6.out.2 (hh RX10.out) Q2.out.1 Q2.out.2 (hh RG10.out) HC7.out (by have:=HLN7.out;have:=HBN.out;show ob.length*144≤reach;unfold reach;omega) (hh RB10.out) HC9.out (by have:=HLN9.out;have:=HBN.out;show ol.length*144≤reach;unfold reach;omega) (hh RL10.out)
   case b1=>first|(rw[St.ds_length];unfold maxLen;have:=HLJ.out;omega)|(unfold maxLen;have:=HLJ.out;omega)
   case b2=>first|(rw[St.ds_length];have:=HLJ.out;omega)|(have:=HLJ.out;omega)
   case b3=>have:=HFR.out.size;have:=HZ10.out;simp;omega
   case k=>
   intro v11 w11 hown hf11;have hde:St.ds oj++[(s.wth xe ob ol).d]=St.ds (oj++[s.wth xe ob ol]):=by rw[St.ds_eq,St.ds_eq,List.map_append];rfl
   rw[hde] at hown;obtain⟨A11,c11,rfl,hl11⟩:=hown.slice;have hal:Fr Non V10 (V10.alloc (.cells #[vu8 s.kind,.string s.name,.string s.frm,.bool s.sec,.bool s.mt,.slice A5 xe.length c5,.slice A2 s.args.length c2,.slice A7 ob.length c7,.slice A9 ol.length c9] 42)):=(Zf V10).alloc _;rw[St.ds_length] at hown hl11 ⊢;obtain⟨n11,hn11⟩:∃n,n=(oj++[s.wth xe ob ol]).length:=⟨_,rfl⟩;rw[←hn11] at hown hl11 ⊢;have HN11:=Zh hn11;clear hn11;have FW:=Zh (show Fr (fun k=>k=eb) w w11 from((HFR.out.trans F10.out).trans hal.non).then hf11 (fun k hk h=>by have:=h.1;omega));have H11:=Zh ((H10.out.fr hal (non _)).fr hf11 (fun h=>by have:=h.1;omega));have O11:=Zh hown;have HL11:=Zh hl11
   have B11:=Zh (Zb (Zb B10.out hal (non _)) hf11 (fun h=>by have:=(HOW.out.lt _ h.2).2;have:=HSB.out;omega));clear hde hown hl11 hal hf11 l0 l1 l2 l3 l4 l5 l6 l7 l8;have q11:=H11.out.c11;have q12:=H11.out.c12;rw[HNI.out] at q11;rw[HXX.out] at q12;have hed:s.ed c ej=([s.wth xe ob ol],e4):=by
    have g1:xe=s.ex:=HXE.out;have g2:e2=ej.next.pass c s.kind:=HE2.out.trans HE1.out;cases hb
    ·rw[ed_no c s ej HHB.out.symm,←g2,HOBq.out];simp only;rw[show oq=ob by rw[HOBX.out];rfl,show eq3=e3 by rw[HE3.out];rfl,HOL.out,g1]
    ·rw[ed_in c s ej HHB.out.symm HXX.out HNI.out,←g2,HOBq.out];simp only;rw[show oq++[c.of s.frm]=ob by rw[HOBX.out];rfl,show eq3.next.did s.mt=e3 by rw[HE3.out];rfl,HOL.out,g1]
   have HED2:=Zh hed;clear hed;cases hb;all_goals
    go_wp2_with fail;go_roundw
    case rel=>exact⟨j+1,by go_num,by omega,FW.out,by rw[HSN.out,HED2.out];exact H11.out,by rw[HSN.out,HED2.out];exact O11.out⟩
    case measure=>simp[intOf];omega
  ·go_wp2_with fail;go_ret;obtain rfl:j=l.length:=by omega
   rw[List.take_length] at hed hown;obtain⟨A0,c0,rfl,hc0⟩:=hown.slice;rw[St.ds_length] at hown ⊢;exact⟨A0,c0,rfl,hfr,hed,hown⟩
end Go.Proofs.YtpkpgmnbheenbaaGreatDoor
