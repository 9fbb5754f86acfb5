/- Contracts and laws, Mh25 -/
import Derived.Test.YtpkpgmnbheenbaaGreatDoorMh01
import Derived.Test.YtpkpgmnbheenbaaGreatDoorMh22
import Derived.Test.YtpkpgmnbheenbaaGreatDoorMh23
import Derived.Test.YtpkpgmnbheenbaaGreatDoorMh24
import Derived.Deep.DeepCutAuto
import Derived.Deep.CutBlock
import Derived.Deep.RegionLaw
namespace Go.Proofs.YtpkpgmnbheenbaaGreatDoor
open Go.RowKit
set_option linter.unusedVariables false
set_option linter.unusedSimpArgs false
set_option maxHeartbeats 8000000
set_option maxRecDepth 100000
theorem StRd.imp {ok ok':Nat→Prop} {w:World} {s:St} {A1 A2 A3 A4:Option Addr} {c1 c2 c3 c4:Nat} (h:StRd ok w s A1 A2 A3 A4 c1 c2 c3 c4) (hk:∀k,ok k→ok' k):StRd ok' w s A1 A2 A3 A4 c1 c2 c3 c4:=
 ⟨⟨h.ex.1,h.ex.2.1,h.ex.2.2.fr (Zf w) (fun _ _=>non _) hk⟩,⟨h.args.1,h.args.2.1,h.args.2.2.fr (Zf w) (fun _ _=>non _) hk⟩,⟨h.body.1,h.body.2.1,h.body.2.2.fr (Zf w) (fun _ _=>non _) hk⟩,⟨h.els.1,h.els.2.1,h.els.2.2.fr (Zf w) (fun _ _=>non _) hk⟩⟩
theorem chunks_one {ok:Nat→Prop} {w:World} {sz:Nat} {ds:List D} {xs:List Value} (h:Chunks ok w sz [ds] xs):RdL ok w ds xs:=by
 obtain⟨us,r,e,_,_,h1,h2⟩:=h;cases h2;rw[e,List.append_nil];exact h1
theorem prog_ed (c:EdC) (hni:c.inside=false) (p:Pd) (eb:Nat) (P:List Fu) (e:EdS) (ok:Nat→Prop) (A:Option Addr) (cc:Nat) (w:World) (hoks:P.all okF=true) (hM:Fu.sizes P≤2000) (hL:P.length≤2000) (hB:EB e (Fu.sizes P+P.length))
  (hok:∀k,ok k→k<w.heap.size∧k≠eb) (hE:EdAt eb c p w e) (hP:StRd ok w c.put p.B1 p.B2 p.B3 p.B4 p.d1 p.d2 p.d3 p.d4) (hr:RdRows ok w 5 A 0 (P.map Fu.d)) (hlc:P.length≤cc) (hc:P.length*96≤reach):
  Calls Tryz.prog 19 #[.pointer (some ⟨eb,0,none⟩),.agg #[.slice A P.length cc]] w fun r w'=>∃A' c',r= .returned (.agg #[.slice A' P.length c'])∧Fr (fun k=>k=eb) w w'∧EdAt eb c p w' (Fu.eds c P e).2∧P.length≤c'∧OwnM ok (w.heap.size+5) 53 5 w' (.slice A' P.length c') ((Fu.eds c P e).1.map Fu.d):=by
 have h2:(c.inside&&c.extra)=false:=by rw[hni];rfl
 have heb:eb<w.heap.size:=blk_lt hE;have HNI:=Zh hni;have HOKS:=Zh hoks;have HM:=Zh hM;have HL:=Zh hL;have HBB:=Zh hB;have HK:=Zh hok;have HE:=Zh hE;have HP:=Zh hP;have HR:=Zh hr;have HLC:=Zh hlc;have HC:=Zh hc
 clear hni hoks hM hB hok hE hP hr hlc hc;obtain⟨W0,HW0⟩:∃W0,W0=(w.alloc (.cells #[.slice A P.length cc] 24)).alloc (.cells #[.slice none 0 0] 24):=⟨_,rfl⟩;have hf0:Fr Non w W0:=by rw[HW0];exact((Zf w).alloc _).alloc _
 have hz0:W0.heap.size=w.heap.size+2:=by rw[HW0];simp
 have B0:=Zh (show W0.heap[w.heap.size]? =some (.cells #[.slice A P.length cc] 24 (0,0)) by rw[HW0];exact blk_old (blk_new _ _ _));have B1:=Zh (show W0.heap[w.heap.size+1]? =some (.cells #[.slice none 0 0] 24 (0,0)) by rw[HW0];exact blk_new' (by simp) _ _);have CP:=Zh (copyP_own P ok A cc W0 (fun k hk=>by have:=HK.out k hk;omega) (HR.out.fr hf0 (fun _ _=>non _) fun _ h=>h) HLC.out HC.out);have F0:=Zh hf0;have HZ0:=Zh hz0
 clear hf0 hz0;have x0:W0.cell? ⟨w.heap.size,0,none⟩=some (.slice A P.length cc):=(Zc B0.out).1 0 _ rfl;go_enter Tryz.func19,Tryz.ntmps19;go_upto_region 1 with fail;rw[←HW0];clear HW0;go_wp2_with fail;refine CP.out.mono ?_;rintro r w1 ⟨A1,c1,rfl,hf1,hc1,how1⟩;clear CP;rw[HZ0.out] at how1;obtain⟨qb,hqb⟩:∃qb,qb=w1.heap.size:=⟨_,rfl⟩;obtain⟨W2,HW2⟩:∃W2,W2=w1.alloc (.cells #[.slice A1 P.length c1] 24):=⟨_,rfl⟩;have hf2:Fr Non w1 W2:=by rw[HW2];exact(Zf _).alloc _
 have hq2:W2.heap[qb]? =some (.cells #[.slice A1 P.length c1] 24 (0,0)):=by rw[HW2,hqb];exact blk_new _ _ _
 have F2:=Zh (F0.out.trans (hf1.trans hf2));have HQB:=Zh (show w.heap.size+1<qb∧qb<W2.heap.size by have:=hf1.size;have:=HZ0.out;have:=blk_lt hq2;omega);have Q2:=Zh hq2;have R2:=Zh (Zb B1.out (hf1.trans hf2) (non _));have O2:=Zh ((OwnM.of_own (ok:=ok) how1).fr hf2 (fun _ _=>non _) (fun _ _=>non _));have HQE:=Zh hqb;have HGQ:=Zh (show∀k,(Value.slice A1 P.length c1).ownBlock=some k→k<qb from fun k hk=>by rw[hqb];exact(how1.lt k hk).2);have HC1:=Zh hc1;clear hf1 hf2 hq2 how1 hqb hc1 x0;go_upto_region 2 with fail;rw[←HW2,←HQE.out];clear HW2;go_wp2_with fail
 go_loopw [6] (fun i wr=>∃j:Nat,i= .int .i64 j∧j≤P.length∧Fr (fun k=>k=eb) w wr∧W2.heap.size≤wr.heap.size∧wr.heap[qb]? =some (.cells #[.slice A1 P.length c1] 24 (0,0))∧wr.heap[w.heap.size+1]? =some (.cells #[.slice none 0 0] 24 (0,0))∧EdAt eb c p wr (Fu.eds c (P.take j) e).2∧OwnM ok (w.heap.size+5) 53 5 wr (.slice A1 P.length c1) ((rowE c P e j).map Fu.d)) (fun i _=>P.length-(intOf i).toNat)
 case atStart=>exact⟨0,rfl,by omega,F2.out.non,Nat.le_refl _,Q2.out,R2.out,by rw[List.take_zero,Fu.eds];exact HE.out.fr F2.out (non _),by rw[rowE_zero];exact O2.out⟩
 case round=>
  obtain⟨j,rfl,hj,hfr,hz,hqw,hrw,hed,hown⟩:=hrel;obtain⟨wo,rfl⟩:∃wo:World,wo=wr:=⟨_,rfl⟩;have xq:wo.cell? ⟨qb,0,none⟩=some (.slice A1 P.length c1):=(Zc hqw).1 0 _ rfl;by_cases hlt:j<P.length
  ·obtain⟨ej,hej⟩:∃ej,ej=(Fu.eds c (P.take j) e).2:=⟨_,rfl⟩;obtain⟨f,hf⟩:∃f,P[j]=f:=⟨_,rfl⟩;have hbd:=feds_bd c h2 (P.take j) e;have hsz:=fsizes_take P j hlt;have hsl:=fsizes_take_le P (j+1);have hsuc:=rowE_succ c P e j hlt;have hsnoc:=feds_snoc c P e j hlt;have hlen:=rowE_length c P e j (by omega);have hat:=rowE_at c P e j hlt;rw[←hej] at hed hbd hsuc hsnoc;rw[hf] at hsz hsuc hsnoc hat;have hokf:okF f=true:=by rw[←hf];exact List.all_eq_true.1 HOKS.out _ (List.getElem_mem hlt)
   have hobs:St.oks f.body 1=true:=by unfold okF at hokf;rw[Bool.and_eq_true] at hokf;exact hokf.1
   have hEB:EB ej (St.sizes f.body+1):=HBB.out.go hbd (by rw[List.length_take];omega);have hMf:St.sizes f.body≤2000:=by have:=HM.out;omega
   obtain⟨g,B1a,b1,B2a,b2,B3a,b3,rfl,hg1,hg2,k0,k1,k2,k3,k4,hfz,⟨p1,q1,r1⟩,⟨p2,q2,r2⟩,⟨p3,q3,r3⟩⟩:=hown.fu j (by rw[hlen];exact hlt) hat;have HEB:=Zh hEB;have HOB:=Zh hobs;have HMF:=Zh hMf;have HSU:=Zh hsuc;have HSN:=Zh hsnoc;have HLN:=Zh hlen
   have HOW:=Zh hown;have HED:=Zh hed;have HFR:=Zh hfr;have HG:=Zh (And.intro hg1 hg2)
   have R1:=Zh r1;have Rb:=Zh r2;have R3:=Zh r3
   have Q1:=Zh (And.intro p1 q1);have Qb:=Zh (And.intro p2 q2);have Q3:=Zh (And.intro p3 q3)
   have HQW:=Zh hqw;have HRW:=Zh hrw;have HZ:=Zh hz
   clear hEB hobs hMf hsuc hsnoc hlen hown hed hfr hg1 hg2 r1 r2 r3 p1 q1 p2 q2 p3 q3 hqw hrw hbd hsz hsl hat hokf hej;obtain⟨okw,hokw⟩:∃o:Nat→Prop,o=okM ok (w.heap.size+5) wo (.slice (some ⟨g,0,none⟩) P.length c1):=⟨_,rfl⟩;rw[←hokw] at R1 Rb R3;have HOK2:=Zh (show∀k,okw k→k<wo.heap.size∧k≠eb∧k≠g from fun k hk=>by
    rw[hokw] at hk;have h3:=F2.out.size;have hG:=HG.out;rcases hk with hk|hk
    ·have:=HK.out k hk;omega
    ·have h4:=hk.1;have h5:=hk.2.1
     exact⟨h5,by omega,fun h=>hk.2.2 (by rw[h];rfl)⟩)
   obtain⟨fb,hfb⟩:∃b,b=wo.heap.size:=⟨_,rfl⟩;obtain⟨W3,HW3⟩:∃W,W=wo.alloc (.cells #[.string f.name,.slice B1a f.params.length b1,.slice B2a f.body.length b2,.bool f.sec,.slice B3a f.ret.length b3] 53):=⟨_,rfl⟩;have hf3:Fr Non wo W3:=by rw[HW3];exact(Zf _).alloc _
   have hb3:W3.heap[fb]? =some (.cells #[.string f.name,.slice B1a f.params.length b1,.slice B2a f.body.length b2,.bool f.sec,.slice B3a f.ret.length b3] 53 (0,0)):=by rw[HW3,hfb];exact blk_new _ _ _
   have HFB:=Zh hfb;have E3:=Zh (HED.out.fr hf3 (non _));have C3:=Zh hb3;have F3:=Zh hf3
   have hfz3:w.heap.size<fb:=by have:=F2.out.size;have:=HQB.out;omega
   have HFZ:=Zh hfz3;have ST:=Zh (stmts_any c HNI.out p eb (St.sizes f.body) f.body 1 ej okw B2a b2 W3 HOB.out (Nat.le_refl _) HMF.out (HEB.out.le (by omega)) (fun k hk=>by have:=HOK2.out k hk;have:=hf3.size;omega) E3.out
    ((HP.out.fr (HFR.out.trans hf3.non) (fun k hk=>(HK.out k hk).2)).imp (fun k hk=>by rw[hokw];exact .inl hk)) (Rb.out.fr hf3 (fun _ _=>non _) (fun _ h=>h)) Qb.out.1 Qb.out.2)
   clear hf3 hb3 hfb hfz3;have x2:W3.cell? ⟨fb,2,none⟩=some (.slice B2a f.body.length b2):=(Zc C3.out).1 2 _ rfl;go_upto_region 6 with fail;rw[←HFB.out,←HW3];clear HW3 k0 k1 k2 k3 k4;go_wp2_with fail;refine ST.out.mono ?_;rintro r w5 ⟨A2,c2,rfl,hf5,hed5,hown5⟩;clear ST x2;obtain⟨bl,e5,hbe⟩:∃bl e5,St.eds c f.body ej=(bl,e5):=⟨_,_,rfl⟩;have hbd5:=eds_bd c h2 f.body ej;have hbl:=(eds_length c h2 f.body ej).2;rw[hbe] at hed5 hown5 hbd5 hbl ⊢;simp only at hed5 hown5 hbd5 hbl ⊢;have hfe:f.ed c ej=(⟨f.name,f.params,bl,f.sec,f.ret⟩,⟨e5.K,e5.n+2,e5.at_,e5.done,e5.fl⟩):=by unfold Fu.ed;rw[hbe]
   have hls:=len_sizes f.body;have hMF:=HMF.out;have hb2:bl.length≤4000:=by omega
   have hn0:0≤e5.n:=by have:=hbd5.n0;have:=HEB.out.n0;omega
   have hn1:e5.n≤100000-2:=by have:=hbd5.n1;have:=HEB.out.n1;omega
   have hc2:bl.length≤c2:=by obtain⟨_,_,h1,h3⟩:=hown5.slice;rw[St.ds_length] at h1 h3;cases h1;exact h3
   have hGG:=HG.out;have hFZ:=HFZ.out;have hfb:=HFB.out;have hlt3:=blk_lt C3.out;have hW2:=F2.out.size;have hQB:=HQB.out;have hZ:=HZ.out
   have hn5:=hf5.size;obtain⟨W6,HW6⟩:∃W,W=w5.setCell ⟨fb,2,none⟩ (.slice A2 bl.length c2):=⟨_,rfl⟩;have hs6:Fr (fun k=>k=fb) w5 W6:=by rw[HW6];exact(Fr.refl _ _).setCell _ _ (.inl rfl)
   have hn6:=hs6.size;have hf6:Fr (fun k=>k=eb) wo W6:=by rw[HW6];exact(F3.out.non.trans hf5).setCell _ _ (.inr (by show wo.heap.size≤fb;omega))
   have c5:=Zb C3.out hf5 (fun h=>by have h:fb=eb:=h;omega);have c6:W6.heap[fb]? =some (.cells #[.string f.name,.slice B1a f.params.length b1,.slice A2 bl.length c2,.bool f.sec,.slice B3a f.ret.length b3] 53 (0,0)):=by rw[HW6];exact blk_set c5 2 _
   have y2:=(Zc c5).1 2 _ rfl;have yf:=(Zc c5).2;have ow6:=HOW.out.fr hf6 (fun k hk h=>by have h:k=eb:=h;omega) (fun k hk=>(HK.out k hk).2);have hmono:∀k,okw k→okM ok (w.heap.size+5) W6 (.slice (some ⟨g,0,none⟩) P.length c1) k:=fun k hk=>by
    rw[hokw] at hk;exact hk.imp id fun hk=>⟨hk.1,by have:=hk.2.1;omega,hk.2.2⟩
   have hrb:=(hown5.rows).fr hs6 (fun k hk h=>by
    have h:k=fb:=h;rcases hk with hk|hk
    ·have:=HOK2.out k hk;omega
    ·omega) (ok':=okM ok (w.heap.size+5) W6 (.slice (some ⟨g,0,none⟩) P.length c1)) (fun k hk=>by
    rcases hk with hk|hk
    ·exact hmono k hk
    ·exact .inr ⟨by omega,by omega,fun h=>by have h:some g=some k:=h;cases h;omega⟩)
   have hd:=chunks_one (chunk_fu (⟨f.name,f.params,bl,f.sec,f.ret⟩:Fu) Q1.out.1 Q1.out.2 (R1.out.fr hf6 (fun k hk h=>(HOK2.out k hk).2.1 h) hmono) hc2 (by show bl.length*144≤reach;unfold reach;omega) hrb Q3.out.1 Q3.out.2 (R3.out.fr hf6 (fun k hk h=>(HOK2.out k hk).2.1 h) hmono));have hlm:((rowE c P e j).map Fu.d).length=P.length:=by rw[List.length_map];exact HLN.out
   have hp:=ownM_put5 (K:=j) (by rw[hlm];exact ow6) (by rw[hlm];exact hlt) (fun k hk=>by have:=HK.out k hk;omega) (by rw[hlm];exact hd) rfl;rw[hlm] at hp;have hse:((rowE c P e j).map Fu.d).set j (Fu.d ⟨f.name,f.params,bl,f.sec,f.ret⟩)=(rowE c P e (j+1)).map Fu.d:=by rw[HSU.out,hfe,List.map_set]
   rw[hse] at hp;obtain⟨g',E1a,d1,E2a,d2,E3a,d3,hge,_,_,k0,k1,k2,k3,k4,hfz,_,_,_⟩:=ow6.fu j (by rw[HLN.out];exact hlt) rfl;cases hge;obtain⟨W7,HW7⟩:∃W,W=put5e W6 g (j*5) (.string f.name) (.slice B1a f.params.length b1) (.slice A2 bl.length c2) (.bool f.sec) (.slice B3a f.ret.length b3):=⟨_,rfl⟩;have h7:Fr (fun k=>k=g) W6 W7:=by rw[HW7];exact put5e_fr _ _ _ _ _ _ _ _
   rw[←HW7] at hp;have z0:=(Zc c6).1 0 _ rfl;have z1:=(Zc c6).1 1 _ rfl;have z2:=(Zc c6).1 2 _ rfl;have z3:=(Zc c6).1 3 _ rfl;have z4:=(Zc c6).1 4 _ rfl;have q6:=Zb HQW.out hf6 (fun h=>by have h:qb=eb:=h;omega);have v6:=Zb HRW.out hf6 (fun h=>by have h:w.heap.size+1=eb:=h;omega);have xq6:W6.cell? ⟨qb,0,none⟩=some (.slice (some ⟨g,0,none⟩) P.length c1):=(Zc q6).1 0 _ rfl;have E6:=hed5.fr hs6 (fun h=>by have h:eb=fb:=h;omega);have E7:=E6.fr h7 (fun h=>by have h:eb=g:=h;omega);have n7:=h7.size;have E8:=Zh (show EdAt eb c p (W7.setCell ⟨eb,15,none⟩ (.int .i64 (e5.n+2))) ⟨e5.K,e5.n+2,e5.at_,e5.done,e5.fl⟩ from blk_set E7 15 _);have s8:Fr (fun k=>k=eb) W7 (W7.setCell ⟨eb,15,none⟩ (.int .i64 (e5.n+2))):=(Fr.refl _ _).setCell _ _ (.inl rfl);have F8:=Zh (((HFR.out.trans hf6).then h7 (fun k hk h=>by have h:k=g:=h;omega)).trans s8);have O8:=Zh (hp.fr s8 (fun k hk h=>by have h:k=eb:=h;omega) (fun k hk=>(HK.out k hk).2));have Q8:=Zh (Zb (Zb q6 h7 (fun h=>by have h:qb=g:=h;have:=HGQ.out g rfl;omega)) s8 (fun h=>by have h:qb=eb:=h;omega));have V8:=Zh (Zb (Zb v6 h7 (fun h=>by have h:w.heap.size+1=g:=h;omega)) s8 (fun h=>by have h:w.heap.size+1=eb:=h;omega));have Z8:=Zh (show W2.heap.size≤(W7.setCell ⟨eb,15,none⟩ (.int .i64 (e5.n+2))).heap.size by have:=s8.size;omega);have HE7:=Zh E7;have HFE:=Zh hfe;have HN:=Zh (And.intro hn0 hn1);clear hp hse hfe hed5 hown5 hbd5 hbl hls hMF hb2 hn0 hn1 hc2 hGG hFZ hlt3 hW2 hQB hZ hn5 hs6 hn6 hf6 c5 c6 ow6 hmono hrb hd hlm h7 q6 v6 E6 E7 n7 s8 hf5 hfb;unfold put5e at HW7;go_upto_region 7 with fail;rw[←HW6];clear HW6 y2 yf;go_upto_region 8 with fail;rw[←HW7];clear HW7 z0 z1 z2 z3 z4 k0 k1 k2 k3 k4 hfz xq6;have q15:=HE7.out.c15;have qf7:=HE7.out.fz;obtain⟨hn0,hn1⟩:=HN.out;go_wp2_with fail;go_roundw
   case rel=>exact⟨j+1,by go_num,by omega,F8.out,Z8.out,Q8.out,V8.out,by rw[HSN.out,HFE.out];exact E8.out,O8.out⟩
   case measure=>simp[intOf];omega
  ·obtain rfl:j=P.length:=by omega
   rw[List.take_length] at hed;rw[rowE_all] at hown;have r0:=(Zc hrw).1 0 _ rfl;have rf:=(Zc hrw).2;have HRW:=Zh hrw;have HED:=Zh hed;have HOW:=Zh hown;have HFR:=Zh hfr
   clear hrw hed hown hfr hqw;go_wp2_with fail;have hset:Fr (fun k=>k=w.heap.size+1) wo (wo.setCell ⟨w.heap.size+1,0,none⟩ (.slice A1 P.length c1)):=(Fr.refl _ _).setCell _ _ (.inl rfl);refine bodyPost_ret (v:=.agg #[.slice A1 P.length c1]) (by simp[results,Tryz.results19,go_sem,r0]) rfl ⟨A1,c1,rfl,HFR.out.setCell _ _ (.inr (by simp)),HED.out.fr hset (fun h=>by have h:eb=w.heap.size+1:=h;omega),HC1.out,HOW.out.fr hset (fun k hk h=>by have h:k=w.heap.size+1:=h;omega) (fun k hk h=>by have h:k=w.heap.size+1:=h;have:=HK.out k hk;omega)⟩
theorem of_size (c:EdC) (fr:ByteArray):(c.of fr).size=c.put.size:=by
 unfold EdC.of;cases c.put;simp only[St.size]
theorem sizes_two (a b:St):St.sizes [a,b]=a.size+b.size:=by simp[St.sizes]
theorem sizes_one (a:St):St.sizes [a]=a.size:=by simp[St.sizes]
theorem wth_size (s:St) (ex:List Ex) (b l:List St):(s.wth ex b l).size=1+St.sizes b+St.sizes l:=by unfold St.wth;simp only[St.size]
theorem mul_put (x S:Nat):x*(S+1)=x*S+x:=by rw[Nat.mul_succ]
mutual
theorem ed_size (c:EdC) (h2:(c.inside&&c.extra)=false):∀(s:St) (e:EdS),St.sizes (s.ed c e).1≤s.size*(c.put.size+1)
 | .mk k nm fr sec mt ex args body els,e=>by
   have hsz:(St.mk k nm fr sec mt ex args body els).size=1+St.sizes body+St.sizes els:=by simp only[St.size]
   rw[hsz,Nat.add_mul,Nat.add_mul,Nat.one_mul];cases hh:e.next.here c k
   ·rw[ed_no c (.mk k nm fr sec mt ex args body els) e hh];simp only;rw[sizes_one,wth_size];have b1:=eds_size c h2 body (e.next.pass c k);have b2:=eds_size c h2 els (St.eds c body (e.next.pass c k)).2;show 1+St.sizes (St.eds c body (e.next.pass c k)).1+St.sizes (St.eds c els (St.eds c body (e.next.pass c k)).2).1≤_
    omega
   ·cases hx:c.extra<;>cases hi:c.inside
    ·rw[ed_bh c (.mk k nm fr sec mt ex args body els) e hh hx hi];simp only;rw[sizes_two,wth_size,of_size];have b1:=eds_size c h2 body (e.next.pass c k);have b2:=eds_size c h2 els (St.eds c body (e.next.pass c k)).2;show 1+St.sizes (St.eds c body (e.next.pass c k)).1+St.sizes (St.eds c els (St.eds c body (e.next.pass c k)).2).1+_≤_
     omega
    ·rw[ed_in c (.mk k nm fr sec mt ex args body els) e hh hx hi];simp only;rw[sizes_one,wth_size,sizes_append,sizes_one,of_size];have b1:=eds_size c h2 body (e.next.pass c k);have b2:=eds_size c h2 els ((St.eds c body (e.next.pass c k)).2.next.did mt);show 1+(St.sizes (St.eds c body (e.next.pass c k)).1+_)+St.sizes (St.eds c els ((St.eds c body (e.next.pass c k)).2.next.did mt)).1≤_
     omega
    ·rw[ed_ex c (.mk k nm fr sec mt ex args body els) e hh hx hi];simp only;rw[sizes_one,wth_size];have b1:=eds_size c h2 body ((e.next.pass c k).did mt);have b2:=eds_size c h2 els (St.eds c body ((e.next.pass c k).did mt)).2;show 1+St.sizes (St.eds c body ((e.next.pass c k).did mt)).1+St.sizes (St.eds c els (St.eds c body ((e.next.pass c k).did mt)).2).1≤_
     omega
    ·rw[hx,hi] at h2;cases h2
theorem eds_size (c:EdC) (h2:(c.inside&&c.extra)=false):∀(l:List St) (e:EdS),St.sizes (St.eds c l e).1≤St.sizes l*(c.put.size+1)
 |[],e=>by rw[St.eds];simp[St.sizes]
 |s::l,e=>by
  rw[St.eds];simp only;rw[sizes_append,St.sizes,Nat.add_mul];exact Nat.add_le_add (ed_size c h2 s e) (eds_size c h2 l _)
end
theorem feds_size (c:EdC) (h2:(c.inside&&c.extra)=false):∀(l:List Fu) (e:EdS),Fu.sizes (Fu.eds c l e).1≤Fu.sizes l*(c.put.size+1)
 |[],e=>by rw[Fu.eds];simp[Fu.sizes]
 |s::l,e=>by
  rw[Fu.eds];simp only;rw[Fu.sizes,Fu.sizes,Nat.add_mul];have h:=eds_size c h2 s.body e;exact Nat.add_le_add h (feds_size c h2 l _)
theorem may_oks {P:List Fu} (h:mayM P=true):P.all okF=true:=by
 unfold mayM at h;rw[Bool.and_eq_true] at h;exact h.1
theorem may_small {P:List Fu} (h:mayM P=true):Fu.sizes P≤400:=by
 unfold mayM at h;simp only[Bool.and_eq_true,decide_eq_true_eq] at h;exact h.2.2
theorem lay_may {P:List Fu} {k:Nat} (h:(layM P k).2=0):mayM P=true:=(sc_ok (layM_sc k h)).1
def zeroSt:St:=.mk 0 ⟨#[]⟩ ⟨#[]⟩ false false [] [] [] []
def noPd:Pd:=⟨none,none,none,none,0,0,0,0⟩
theorem rd_zero (ok:Nat→Prop) (w:World):StRd ok w zeroSt noPd.B1 noPd.B2 noPd.B3 noPd.B4 noPd.d1 noPd.d2 noPd.d3 noPd.d4:=
 ⟨⟨Nat.le_refl _,by decide,trivial⟩,⟨Nat.le_refl _,by decide,trivial⟩,⟨Nat.le_refl _,by decide,trivial⟩,⟨Nat.le_refl _,by decide,trivial⟩⟩
theorem rem_u8 (k:UInt8) (m:Nat) (h1:0<m) (h2:m≤255):((k.toNat:Int)).tmod (m:Int)=((k.toNat%m:Nat):Int):=by
 rw[Int.tmod_eq_emod_of_nonneg (by omega)];omega
end Go.Proofs.YtpkpgmnbheenbaaGreatDoor
