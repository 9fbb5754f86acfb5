/- Contracts and laws, Mh27 -/
import Derived.Test.YtpkpgmnbheenbaaGreatDoorMh01
import Derived.Test.YtpkpgmnbheenbaaGreatDoorMh03
import Derived.Test.YtpkpgmnbheenbaaGreatDoorMh09
import Derived.Test.YtpkpgmnbheenbaaGreatDoorMh22
import Derived.Test.YtpkpgmnbheenbaaGreatDoorMh23
import Derived.Test.YtpkpgmnbheenbaaGreatDoorMh25
import Derived.Test.YtpkpgmnbheenbaaGreatDoorMh26
import Derived.Deep.DeepCutAuto
import Derived.Deep.CutBlock
import Derived.Deep.RegionLaw
namespace Go.Proofs.YtpkpgmnbheenbaaGreatDoor
open Go.RowKit
set_option linter.unusedVariables false
set_option linter.unusedSimpArgs false
set_option maxHeartbeats 8000000
set_option maxRecDepth 100000
theorem prog_in (c:EdC) (hni:c.inside=true) (hxx:c.extra=false) (p:Pd) (eb:Nat) (P:List Fu) (e:EdS) (ok:Nat→Prop) (A:Option Addr) (cc:Nat) (w:World) (hoks:P.all okF=true) (hM:Fu.sizes P≤2000) (hL:P.length≤2000) (hB:EB e (Fu.sizes P+P.length))
  (hok:∀k,ok k→k<w.heap.size∧k≠eb) (hE:EdAt eb c p w e) (hP:StRd ok w c.put p.B1 p.B2 p.B3 p.B4 p.d1 p.d2 p.d3 p.d4) (hr:RdRows ok w 5 A 0 (P.map Fu.d)) (hlc:P.length≤cc) (hc:P.length*96≤reach):
  Calls Tryz.prog 19 #[.pointer (some ⟨eb,0,none⟩),.agg #[.slice A P.length cc]] w fun r w'=>∃A' c',r= .returned (.agg #[.slice A' P.length c'])∧Fr (fun k=>k=eb) w w'∧EdAt eb c p w' (Fu.eds c P e).2∧P.length≤c'∧OwnM ok (w.heap.size+5) 53 5 w' (.slice A' P.length c') ((Fu.eds c P e).1.map Fu.d):=by
 have h2:(c.inside&&c.extra)=false:=by rw[hni,hxx];rfl
 have HXX:=Zh hxx;clear hxx;have heb:eb<w.heap.size:=blk_lt hE;have HNI:=Zh hni;have HOKS:=Zh hoks;have HM:=Zh hM;have HL:=Zh hL;have HBB:=Zh hB;have HK:=Zh hok;have HE:=Zh hE;have HP:=Zh hP;have HR:=Zh hr;have HLC:=Zh hlc;have HC:=Zh hc
 clear hni hoks hM hB hok hE hP hr hlc hc;obtain⟨W0,HW0⟩:∃W0,W0=(w.alloc (.cells #[.slice A P.length cc] 24)).alloc (.cells #[.slice none 0 0] 24):=⟨_,rfl⟩;have hf0:Fr Non w W0:=by rw[HW0];exact((Zf w).alloc _).alloc _
 have hz0:W0.heap.size=w.heap.size+2:=by rw[HW0];simp
 have B0:=Zh (show W0.heap[w.heap.size]? =some (.cells #[.slice A P.length cc] 24 (0,0)) by rw[HW0];exact blk_old (blk_new _ _ _));have B1:=Zh (show W0.heap[w.heap.size+1]? =some (.cells #[.slice none 0 0] 24 (0,0)) by rw[HW0];exact blk_new' (by simp) _ _);have CP:=Zh (copyP_own P ok A cc W0 (fun k hk=>by have:=HK.out k hk;omega) (HR.out.fr hf0 (fun _ _=>non _) fun _ h=>h) HLC.out HC.out);have F0:=Zh hf0;have HZ0:=Zh hz0
 clear hf0 hz0;have x0:W0.cell? ⟨w.heap.size,0,none⟩=some (.slice A P.length cc):=(Zc B0.out).1 0 _ rfl;go_enter Tryz.func19,Tryz.ntmps19;go_upto_region 1 with fail;rw[←HW0];clear HW0;go_wp2_with fail;refine CP.out.mono ?_;rintro r w1 ⟨A1,c1,rfl,hf1,hc1,how1⟩;clear CP;rw[HZ0.out] at how1;obtain⟨qb,hqb⟩:∃qb,qb=w1.heap.size:=⟨_,rfl⟩;obtain⟨W2,HW2⟩:∃W2,W2=w1.alloc (.cells #[.slice A1 P.length c1] 24):=⟨_,rfl⟩;have hf2:Fr Non w1 W2:=by rw[HW2];exact(Zf _).alloc _
 have hq2:W2.heap[qb]? =some (.cells #[.slice A1 P.length c1] 24 (0,0)):=by rw[HW2,hqb];exact blk_new _ _ _
 have F2:=Zh (F0.out.trans (hf1.trans hf2));have HQB:=Zh (show w.heap.size+1<qb∧qb<W2.heap.size by have:=hf1.size;have:=HZ0.out;have:=blk_lt hq2;omega);have Q2:=Zh hq2;have R2:=Zh (Zb B1.out (hf1.trans hf2) (non _));have O2:=Zh ((OwnM.of_own (ok:=ok) how1).fr hf2 (fun _ _=>non _) (fun _ _=>non _));have HQE:=Zh hqb;have HGQ:=Zh (show∀k,(Value.slice A1 P.length c1).ownBlock=some k→k<qb from fun k hk=>by rw[hqb];exact(how1.lt k hk).2);have HC1:=Zh hc1;clear hf1 hf2 hq2 how1 hqb hc1 x0;go_upto_region 2 with fail;rw[←HW2,←HQE.out];clear HW2;go_wp2_with fail
 go_loopw [6] (fun i wr=>∃j:Nat,i= .int .i64 j∧j≤P.length∧Fr (fun k=>k=eb) w wr∧W2.heap.size≤wr.heap.size∧wr.heap[qb]? =some (.cells #[.slice A1 P.length c1] 24 (0,0))∧wr.heap[w.heap.size+1]? =some (.cells #[.slice none 0 0] 24 (0,0))∧EdAt eb c p wr (Fu.eds c (P.take j) e).2∧OwnM ok (w.heap.size+5) 53 5 wr (.slice A1 P.length c1) ((rowE c P e j).map Fu.d)) (fun i _=>P.length-(intOf i).toNat)
 case atStart=>exact⟨0,rfl,by omega,F2.out.non,Nat.le_refl _,Q2.out,R2.out,by rw[List.take_zero,Fu.eds];exact HE.out.fr F2.out (non _),by rw[rowE_zero];exact O2.out⟩
 case round=>
  obtain⟨j,rfl,hj,hfr,hz,hqw,hrw,hed,hown⟩:=hrel;obtain⟨wo,rfl⟩:∃wo:World,wo=wr:=⟨_,rfl⟩;have xq:wo.cell? ⟨qb,0,none⟩=some (.slice A1 P.length c1):=(Zc hqw).1 0 _ rfl;by_cases hlt:j<P.length
  ·obtain⟨ej,hej⟩:∃ej,ej=(Fu.eds c (P.take j) e).2:=⟨_,rfl⟩;obtain⟨f,hf⟩:∃f,P[j]=f:=⟨_,rfl⟩;have hbd:=feds_bd c h2 (P.take j) e;have hsz:=fsizes_take P j hlt;have hsl:=fsizes_take_le P (j+1);have hsuc:=rowE_succ c P e j hlt;have hsnoc:=feds_snoc c P e j hlt;have hlen:=rowE_length c P e j (by omega);have hat:=rowE_at c P e j hlt;rw[←hej] at hed hbd hsuc hsnoc;rw[hf] at hsz hsuc hsnoc hat;have hokf:okF f=true:=by rw[←hf];exact List.all_eq_true.1 HOKS.out _ (List.getElem_mem hlt)
   have hobs:St.oks f.body 1=true:=by unfold okF at hokf;rw[Bool.and_eq_true] at hokf;exact hokf.1
   have hEB:EB ej (St.sizes f.body+1):=HBB.out.go hbd (by rw[List.length_take];omega);have hMf:St.sizes f.body≤2000:=by have:=HM.out;omega
   obtain⟨g,B1a,b1,B2a,b2,B3a,b3,rfl,hg1,hg2,k0,k1,k2,k3,k4,hfz,⟨p1,q1,r1⟩,⟨p2,q2,r2⟩,⟨p3,q3,r3⟩⟩:=hown.fu j (by rw[hlen];exact hlt) hat;have HEB:=Zh hEB;have HOB:=Zh hobs;have HMF:=Zh hMf;have HSU:=Zh hsuc;have HSN:=Zh hsnoc;have HLN:=Zh hlen
   have HOW:=Zh hown;have HED:=Zh hed;have HFR:=Zh hfr;have HG:=Zh (And.intro hg1 hg2)
   have R1:=Zh r1;have Rb:=Zh r2;have R3:=Zh r3
   have Q1:=Zh (And.intro p1 q1);have Qb:=Zh (And.intro p2 q2);have Q3:=Zh (And.intro p3 q3)
   have HQW:=Zh hqw;have HRW:=Zh hrw;have HZ:=Zh hz
   clear hEB hobs hMf hsuc hsnoc hlen hown hed hfr hg1 hg2 r1 r2 r3 p1 q1 p2 q2 p3 q3 hqw hrw hbd hsz hsl hat hokf hej;obtain⟨okw,hokw⟩:∃o:Nat→Prop,o=okM ok (w.heap.size+5) wo (.slice (some ⟨g,0,none⟩) P.length c1):=⟨_,rfl⟩;rw[←hokw] at R1 Rb R3;have HOK2:=Zh (show∀k,okw k→k<wo.heap.size∧k≠eb∧k≠g from fun k hk=>by
    rw[hokw] at hk;have h3:=F2.out.size;have hG:=HG.out;rcases hk with hk|hk
    ·have:=HK.out k hk;omega
    ·have h4:=hk.1;have h5:=hk.2.1
     exact⟨h5,by omega,fun h=>hk.2.2 (by rw[h];rfl)⟩)
   obtain⟨fb,hfb⟩:∃b,b=wo.heap.size:=⟨_,rfl⟩;obtain⟨W3,HW3⟩:∃W,W=wo.alloc (.cells #[.string f.name,.slice B1a f.params.length b1,.slice B2a f.body.length b2,.bool f.sec,.slice B3a f.ret.length b3] 53):=⟨_,rfl⟩;have hf3:Fr Non wo W3:=by rw[HW3];exact(Zf _).alloc _
   have hb3:W3.heap[fb]? =some (.cells #[.string f.name,.slice B1a f.params.length b1,.slice B2a f.body.length b2,.bool f.sec,.slice B3a f.ret.length b3] 53 (0,0)):=by rw[HW3,hfb];exact blk_new _ _ _
   have HFB:=Zh hfb;have E3:=Zh (HED.out.fr hf3 (non _));have C3:=Zh hb3;have F3:=Zh hf3
   have hfz3:w.heap.size<fb:=by have:=F2.out.size;have:=HQB.out;omega
   have HFZ:=Zh hfz3;have ST:=Zh (stmts_in c HNI.out HXX.out p eb (St.sizes f.body) f.body 1 ej okw B2a b2 W3 HOB.out (Nat.le_refl _) HMF.out (HEB.out.le (by omega)) (fun k hk=>by have:=HOK2.out k hk;have:=hf3.size;omega) E3.out
    ((HP.out.fr (HFR.out.trans hf3.non) (fun k hk=>(HK.out k hk).2)).imp (fun k hk=>by rw[hokw];exact .inl hk)) (Rb.out.fr hf3 (fun _ _=>non _) (fun _ h=>h)) Qb.out.1 Qb.out.2)
   clear hf3 hb3 hfb hfz3;have x2:W3.cell? ⟨fb,2,none⟩=some (.slice B2a f.body.length b2):=(Zc C3.out).1 2 _ rfl;go_upto_region 6 with fail;rw[←HFB.out,←HW3];clear HW3 k0 k1 k2 k3 k4;go_wp2_with fail;refine ST.out.mono ?_;rintro r w5 ⟨A2,c2,rfl,hf5,hed5,hown5⟩;clear ST x2;obtain⟨bl,e5,hbe⟩:∃bl e5,St.eds c f.body ej=(bl,e5):=⟨_,_,rfl⟩;have hbd5:=eds_bd c h2 f.body ej;have hbl:=(eds_length c h2 f.body ej).2;rw[hbe] at hed5 hown5 hbd5 hbl ⊢;simp only at hed5 hown5 hbd5 hbl ⊢;have hfe:f.ed c ej=(⟨f.name,f.params,bl,f.sec,f.ret⟩,⟨e5.K,e5.n+2,e5.at_,e5.done,e5.fl⟩):=by unfold Fu.ed;rw[hbe]
   have hls:=len_sizes f.body;have hMF:=HMF.out;have hb2:bl.length≤4000:=by omega
   have hn0:0≤e5.n:=by have:=hbd5.n0;have:=HEB.out.n0;omega
   have hn1:e5.n≤100000-2:=by have:=hbd5.n1;have:=HEB.out.n1;omega
   have hc2:bl.length≤c2:=by obtain⟨_,_,h1,h3⟩:=hown5.slice;rw[St.ds_length] at h1 h3;cases h1;exact h3
   have hGG:=HG.out;have hFZ:=HFZ.out;have hfb:=HFB.out;have hlt3:=blk_lt C3.out;have hW2:=F2.out.size;have hQB:=HQB.out;have hZ:=HZ.out
   have hn5:=hf5.size;obtain⟨W6,HW6⟩:∃W,W=w5.setCell ⟨fb,2,none⟩ (.slice A2 bl.length c2):=⟨_,rfl⟩;have hs6:Fr (fun k=>k=fb) w5 W6:=by rw[HW6];exact(Fr.refl _ _).setCell _ _ (.inl rfl)
   have hn6:=hs6.size;have hf6:Fr (fun k=>k=eb) wo W6:=by rw[HW6];exact(F3.out.non.trans hf5).setCell _ _ (.inr (by show wo.heap.size≤fb;omega))
   have c5:=Zb C3.out hf5 (fun h=>by have h:fb=eb:=h;omega);have c6:W6.heap[fb]? =some (.cells #[.string f.name,.slice B1a f.params.length b1,.slice A2 bl.length c2,.bool f.sec,.slice B3a f.ret.length b3] 53 (0,0)):=by rw[HW6];exact blk_set c5 2 _
   have y2:=(Zc c5).1 2 _ rfl;have yf:=(Zc c5).2;have ow6:=HOW.out.fr hf6 (fun k hk h=>by have h:k=eb:=h;omega) (fun k hk=>(HK.out k hk).2);have hmono:∀k,okw k→okM ok (w.heap.size+5) W6 (.slice (some ⟨g,0,none⟩) P.length c1) k:=fun k hk=>by
    rw[hokw] at hk;exact hk.imp id fun hk=>⟨hk.1,by have:=hk.2.1;omega,hk.2.2⟩
   have hrb:=(hown5.rows).fr hs6 (fun k hk h=>by
    have h:k=fb:=h;rcases hk with hk|hk
    ·have:=HOK2.out k hk;omega
    ·omega) (ok':=okM ok (w.heap.size+5) W6 (.slice (some ⟨g,0,none⟩) P.length c1)) (fun k hk=>by
    rcases hk with hk|hk
    ·exact hmono k hk
    ·exact .inr ⟨by omega,by omega,fun h=>by have h:some g=some k:=h;cases h;omega⟩)
   have hd:=chunks_one (chunk_fu (⟨f.name,f.params,bl,f.sec,f.ret⟩:Fu) Q1.out.1 Q1.out.2 (R1.out.fr hf6 (fun k hk h=>(HOK2.out k hk).2.1 h) hmono) hc2 (by show bl.length*144≤reach;unfold reach;omega) hrb Q3.out.1 Q3.out.2 (R3.out.fr hf6 (fun k hk h=>(HOK2.out k hk).2.1 h) hmono));have hlm:((rowE c P e j).map Fu.d).length=P.length:=by rw[List.length_map];exact HLN.out
   have hp:=ownM_put5 (K:=j) (by rw[hlm];exact ow6) (by rw[hlm];exact hlt) (fun k hk=>by have:=HK.out k hk;omega) (by rw[hlm];exact hd) rfl;rw[hlm] at hp;have hse:((rowE c P e j).map Fu.d).set j (Fu.d ⟨f.name,f.params,bl,f.sec,f.ret⟩)=(rowE c P e (j+1)).map Fu.d:=by rw[HSU.out,hfe,List.map_set]
   rw[hse] at hp;obtain⟨g',E1a,d1,E2a,d2,E3a,d3,hge,_,_,k0,k1,k2,k3,k4,hfz,_,_,_⟩:=ow6.fu j (by rw[HLN.out];exact hlt) rfl;cases hge;obtain⟨W7,HW7⟩:∃W,W=put5e W6 g (j*5) (.string f.name) (.slice B1a f.params.length b1) (.slice A2 bl.length c2) (.bool f.sec) (.slice B3a f.ret.length b3):=⟨_,rfl⟩;have h7:Fr (fun k=>k=g) W6 W7:=by rw[HW7];exact put5e_fr _ _ _ _ _ _ _ _
   rw[←HW7] at hp;have z0:=(Zc c6).1 0 _ rfl;have z1:=(Zc c6).1 1 _ rfl;have z2:=(Zc c6).1 2 _ rfl;have z3:=(Zc c6).1 3 _ rfl;have z4:=(Zc c6).1 4 _ rfl;have q6:=Zb HQW.out hf6 (fun h=>by have h:qb=eb:=h;omega);have v6:=Zb HRW.out hf6 (fun h=>by have h:w.heap.size+1=eb:=h;omega);have xq6:W6.cell? ⟨qb,0,none⟩=some (.slice (some ⟨g,0,none⟩) P.length c1):=(Zc q6).1 0 _ rfl;have E6:=hed5.fr hs6 (fun h=>by have h:eb=fb:=h;omega);have E7:=E6.fr h7 (fun h=>by have h:eb=g:=h;omega);have n7:=h7.size;have E8:=Zh (show EdAt eb c p (W7.setCell ⟨eb,15,none⟩ (.int .i64 (e5.n+2))) ⟨e5.K,e5.n+2,e5.at_,e5.done,e5.fl⟩ from blk_set E7 15 _);have s8:Fr (fun k=>k=eb) W7 (W7.setCell ⟨eb,15,none⟩ (.int .i64 (e5.n+2))):=(Fr.refl _ _).setCell _ _ (.inl rfl);have F8:=Zh (((HFR.out.trans hf6).then h7 (fun k hk h=>by have h:k=g:=h;omega)).trans s8);have O8:=Zh (hp.fr s8 (fun k hk h=>by have h:k=eb:=h;omega) (fun k hk=>(HK.out k hk).2));have Q8:=Zh (Zb (Zb q6 h7 (fun h=>by have h:qb=g:=h;have:=HGQ.out g rfl;omega)) s8 (fun h=>by have h:qb=eb:=h;omega));have V8:=Zh (Zb (Zb v6 h7 (fun h=>by have h:w.heap.size+1=g:=h;omega)) s8 (fun h=>by have h:w.heap.size+1=eb:=h;omega));have Z8:=Zh (show W2.heap.size≤(W7.setCell ⟨eb,15,none⟩ (.int .i64 (e5.n+2))).heap.size by have:=s8.size;omega);have HE7:=Zh E7;have HFE:=Zh hfe;have HN:=Zh (And.intro hn0 hn1);clear hp hse hfe hed5 hown5 hbd5 hbl hls hMF hb2 hn0 hn1 hc2 hGG hFZ hlt3 hW2 hQB hZ hn5 hs6 hn6 hf6 c5 c6 ow6 hmono hrb hd hlm h7 q6 v6 E6 E7 n7 s8 hf5 hfb;unfold put5e at HW7;go_upto_region 7 with fail;rw[←HW6];clear HW6 y2 yf;go_upto_region 8 with fail;rw[←HW7];clear HW7 z0 z1 z2 z3 z4 k0 k1 k2 k3 k4 hfz xq6;have q15:=HE7.out.c15;have qf7:=HE7.out.fz;obtain⟨hn0,hn1⟩:=HN.out;go_wp2_with fail;go_roundw
   case rel=>exact⟨j+1,by go_num,by omega,F8.out,Z8.out,Q8.out,V8.out,by rw[HSN.out,HFE.out];exact E8.out,O8.out⟩
   case measure=>simp[intOf];omega
  ·obtain rfl:j=P.length:=by omega
   rw[List.take_length] at hed;rw[rowE_all] at hown;have r0:=(Zc hrw).1 0 _ rfl;have rf:=(Zc hrw).2;have HRW:=Zh hrw;have HED:=Zh hed;have HOW:=Zh hown;have HFR:=Zh hfr
   clear hrw hed hown hfr hqw;go_wp2_with fail;have hset:Fr (fun k=>k=w.heap.size+1) wo (wo.setCell ⟨w.heap.size+1,0,none⟩ (.slice A1 P.length c1)):=(Fr.refl _ _).setCell _ _ (.inl rfl);refine bodyPost_ret (v:=.agg #[.slice A1 P.length c1]) (by simp[results,Tryz.results19,go_sem,r0]) rfl ⟨A1,c1,rfl,HFR.out.setCell _ _ (.inr (by simp)),HED.out.fr hset (fun h=>by have h:eb=w.heap.size+1:=h;omega),HC1.out,HOW.out.fr hset (fun k hk h=>by have h:k=w.heap.size+1:=h;omega) (fun k hk h=>by have h:k=w.heap.size+1:=h;have:=HK.out k hk;omega)⟩
def z2C:Array Value:=#[.int .u8 1,.int .u64 0,.string ⟨#[]⟩,.int .u8 0,.slice none 0 0,.int .u8 1,.int .u64 0,.string ⟨#[]⟩,.int .u8 0,.slice none 0 0]
theorem two_zeros {ok:Nat→Prop} {w:World} {b:Nat} (h:w.heap[b]? =some (.cells z2C 48 (0,0))) (hb:ok b):RdRows ok w 5 (some ⟨b,0,none⟩) 0 (Ex.ds [num0,num0]):=
 ⟨⟨b,0,rfl,hb,rfl,⟨_,(Zc h).1 0 _ rfl,rfl⟩,⟨_,(Zc h).1 1 _ rfl,rfl⟩,⟨_,(Zc h).1 2 _ rfl,rfl⟩,⟨_,(Zc h).1 3 _ rfl,rfl⟩,⟨_,(Zc h).1 4 _ rfl,none,0,rfl,Nat.le_refl _,by decide,trivial⟩,trivial⟩,
  ⟨b,0,rfl,hb,rfl,⟨_,(Zc h).1 5 _ rfl,rfl⟩,⟨_,(Zc h).1 6 _ rfl,rfl⟩,⟨_,(Zc h).1 7 _ rfl,rfl⟩,⟨_,(Zc h).1 8 _ rfl,rfl⟩,⟨_,(Zc h).1 9 _ rfl,none,0,rfl,Nat.le_refl _,by decide,trivial⟩,trivial⟩,trivial⟩
def stC (x:St) (p:Pd):Array Value:=#[vu8 x.kind,.string x.name,.string x.frm,.bool x.sec,.bool x.mt,.slice p.B1 x.ex.length p.d1,.slice p.B2 x.args.length p.d2,.slice p.B3 x.body.length p.d3,.slice p.B4 x.els.length p.d4]
structure PutAt (ok:Nat→Prop) (w:World) (x:St) (p:Pd) (sb:Nat):Prop where
 blk:w.heap[sb]? =some (.cells (stC x p) 42 (0,0))
 rd:StRd ok w x p.B1 p.B2 p.B3 p.B4 p.d1 p.d2 p.d3 p.d4
 sz:x.size=1
theorem put_two {ok:Nat→Prop} {w:World} {b sb:Nat} {x:St} (h:w.heap[b]? =some (.cells z2C 48 (0,0))) (hb:ok b) (hs:w.heap[sb]? =some (.cells (stC x ⟨some ⟨b,0,none⟩,none,none,none,2,0,0,0⟩) 42 (0,0)))
  (he:x.ex=[num0,num0]) (ha:x.args=[]) (h3:x.body=[]) (h4:x.els=[]) (hz:x.size=1):PutAt ok w x ⟨some ⟨b,0,none⟩,none,none,none,2,0,0,0⟩ sb:=by
 refine⟨hs,⟨?_,?_,?_,?_⟩,hz⟩
 ·rw[he];exact⟨Nat.le_refl _,by decide,two_zeros h hb⟩
 ·rw[ha];exact⟨Nat.le_refl _,by decide,trivial⟩
 ·rw[h3];exact⟨Nat.le_refl _,by decide,trivial⟩
 ·rw[h4];exact⟨Nat.le_refl _,by decide,trivial⟩
theorem put_none {ok:Nat→Prop} {w:World} {sb:Nat} {x:St} (hs:w.heap[sb]? =some (.cells (stC x ⟨none,none,none,none,0,0,0,0⟩) 42 (0,0)))
  (he:x.ex=[]) (ha:x.args=[]) (h3:x.body=[]) (h4:x.els=[]) (hz:x.size=1):PutAt ok w x ⟨none,none,none,none,0,0,0,0⟩ sb:=by
 refine⟨hs,⟨?_,?_,?_,?_⟩,hz⟩
 ·rw[he];exact⟨Nat.le_refl _,by decide,trivial⟩
 ·rw[ha];exact⟨Nat.le_refl _,by decide,trivial⟩
 ·rw[h3];exact⟨Nat.le_refl _,by decide,trivial⟩
 ·rw[h4];exact⟨Nat.le_refl _,by decide,trivial⟩
def putH:Nat→St
 |0=>putV false
 |1=>putV true
 |2=>putP
 |_=>putM
theorem put_fin (V:World) (H:Nat) (p:Pd) (b4 sC:Array Value) {okp:Nat→Prop} (hokp:okp=fun k=>V.heap.size≤k∧k<V.heap.size+4) {sb:Nat} (hsb:sb=V.heap.size+4) (hC:sC=stC (putH H) p)
  (hp:(H<3∧p=⟨some ⟨V.heap.size+H,0,none⟩,none,none,none,2,0,0,0⟩)∨(3≤H∧p=⟨none,none,none,none,0,0,0,0⟩)):
  Value.pointer (some ⟨V.heap.size+1+1+1+1,0,none⟩)= .pointer (some ⟨sb,0,none⟩)∧Fr Non V (((((V.alloc (.cells z2C 48)).alloc (.cells z2C 48)).alloc (.cells z2C 48)).alloc (.cells b4 42)).alloc (.cells sC 42))∧
  (((((V.alloc (.cells z2C 48)).alloc (.cells z2C 48)).alloc (.cells z2C 48)).alloc (.cells b4 42)).alloc (.cells sC 42)).heap.size=sb+1∧
  ∃p,PutAt okp (((((V.alloc (.cells z2C 48)).alloc (.cells z2C 48)).alloc (.cells z2C 48)).alloc (.cells b4 42)).alloc (.cells sC 42)) (putH H) p sb:=by
 subst hsb hC;obtain⟨X1,HX1⟩:∃W,W=V.alloc (.cells z2C 48):=⟨_,rfl⟩;rw[←HX1];obtain⟨X2,HX2⟩:∃W,W=X1.alloc (.cells z2C 48):=⟨_,rfl⟩;rw[←HX2];obtain⟨X3,HX3⟩:∃W,W=X2.alloc (.cells z2C 48):=⟨_,rfl⟩;rw[←HX3];obtain⟨X4,HX4⟩:∃W,W=X3.alloc (.cells b4 42):=⟨_,rfl⟩;rw[←HX4];obtain⟨X5,HX5⟩:∃W,W=X4.alloc (.cells (stC (putH H) p) 42):=⟨_,rfl⟩;rw[←HX5];have y1:X1.heap.size=V.heap.size+1:=by rw[HX1];simp
 have y2:X2.heap.size=V.heap.size+2:=by rw[HX2];simp[y1]
 have y3:X3.heap.size=V.heap.size+3:=by rw[HX3];simp[y2]
 have y4:X4.heap.size=V.heap.size+4:=by rw[HX4];simp[y3]
 have y5:X5.heap.size=V.heap.size+5:=by rw[HX5];simp[y4]
 have i0:X5.heap[V.heap.size]? =some (.cells z2C 48 (0,0)):=by rw[HX5,HX4,HX3,HX2,HX1];exact blk_old (blk_old (blk_old (blk_old (blk_new _ _ _))))
 have i1:X5.heap[V.heap.size+1]? =some (.cells z2C 48 (0,0)):=by rw[HX5,HX4,HX3,HX2];exact blk_old (blk_old (blk_old (blk_new' y1 _ _)))
 have i2:X5.heap[V.heap.size+2]? =some (.cells z2C 48 (0,0)):=by rw[HX5,HX4,HX3];exact blk_old (blk_old (blk_new' y2 _ _))
 have i4:X5.heap[V.heap.size+4]? =some (.cells (stC (putH H) p) 42 (0,0)):=by rw[HX5];exact blk_new' y4 _ _
 refine⟨rfl,by rw[HX5,HX4,HX3,HX2,HX1];exact(((((Zf V).alloc _).alloc _).alloc _).alloc _).alloc _,y5,p,?_⟩;clear HX1 HX2 HX3 HX4 HX5;have ok:∀j,j<4→okp (V.heap.size+j):=fun j hj=>by rw[hokp];exact⟨by omega,by omega⟩
 rcases hp with⟨h3,rfl⟩|⟨h3,rfl⟩
 ·match H,h3 with
  |0,_=>exact put_two i0 (ok 0 (by omega)) i4 rfl rfl rfl rfl rfl
  |1,_=>exact put_two i1 (ok 1 (by omega)) i4 rfl rfl rfl rfl rfl
  |2,_=>exact put_two i2 (ok 2 (by omega)) i4 rfl rfl rfl rfl rfl
 ·match H,h3 with
  |n+3,_=>exact put_none i4 rfl rfl rfl rfl rfl
theorem put_gone:∀(h:Nat) (Q:List Fu) (F:Nat) (fr:ByteArray) (b:Ev),(b.g fr).gone=true→evStmt 4 Q F (EdC.of ⟨9,putH h,false,false⟩ fr) b= .error b.n
 |0=>fun Q F fr b h=>gone_V Q F false fr b h
 |1=>fun Q F fr b h=>gone_V Q F true fr b h
 |2=>gone_P
 |n+3=>gone_M
theorem put_within:∀(h:Nat),h≠0→∀(Q:List Fu) (F:Nat) (fr:ByteArray) (b:Ev),1≤(b.g fr).lent→evStmt 3 Q F (EdC.of ⟨8,putH h,true,false⟩ fr) b.next= .error (b.n+1+0)
 |0,h=>absurd rfl h
 |1,_=>within_E
 |2,_=>within_P
 |n+3,_=>within_M
mutual
def St.mu:St→Int→Int×Bool×Bool
 | .mk k _ _ _ mt _ _ body els,n=>
   if k.toNat==8&&n==0 then(0,mt,true) else
    let n1:=if k.toNat==8 then n-1 else n
    let b:=St.mus body n1
    if b.2.2 then(b.1,b.2.1,true) else
     let l:=St.mus els b.1
     if l.2.2 then(l.1,l.2.1,true) else(l.1,false,false)
def St.mus:List St→Int→Int×Bool×Bool
 |[],n=>(n,false,false)
 |s::l,n=>let r:=St.mu s n;if r.2.2 then r else St.mus l r.1
end
mutual
theorem mu_ed (c:EdC) (hk:c.kd.toNat=8) (hi:c.inside=true) (hx:c.extra=false):∀(s:St) (e:EdS),e.done=false→(s.ed c e).2.done=(s.mu e.K).2.2∧((s.mu e.K).2.2=true→(s.ed c e).2.fl=(s.mu e.K).2.1)∧((s.mu e.K).2.2=false→(s.ed c e).2.K=(s.mu e.K).1)
 | .mk k nm fr sec mt ex args body els,e,hd=>by
   have hit:e.next.hit c k=(k.toNat==8):=by unfold EdS.hit;rw[hk,show e.next.done=e.done from rfl,hd];simp
   have hhere:e.next.here c k=(k.toNat==8&&e.K==0):=by unfold EdS.here;rw[hit];rfl
   cases hh:(k.toNat==8&&e.K==0)
   ·rw[hh] at hhere;rw[ed_no c (.mk k nm fr sec mt ex args body els) e hhere,St.mu];simp only[hh,Bool.false_eq_true,if_false];have hp:(e.next.pass c k).K=(if k.toNat==8 then e.K-1 else e.K):=by
     unfold EdS.pass;rw[hit];split<;>rfl
    have hpd:(e.next.pass c k).done=false:=by rw[(pass_nd e.next c k).2.2.1];exact hd
    have b:=mus_ed c hk hi hx body (e.next.pass c k) hpd;rw[hp] at b;cases hb:(St.mus body (if k.toNat==8 then e.K-1 else e.K)).2.2
    ·rw[hb] at b;have l:=mus_ed c hk hi hx els (St.eds c body (e.next.pass c k)).2 b.1;rw[b.2.2 rfl] at l;simp only[Bool.false_eq_true,if_false];show(St.eds c els (St.eds c body (e.next.pass c k)).2).2.done=_∧(_→(St.eds c els (St.eds c body (e.next.pass c k)).2).2.fl=_)∧(_→(St.eds c els (St.eds c body (e.next.pass c k)).2).2.K=_)
     cases hl:(St.mus els (St.mus body (if k.toNat==8 then e.K-1 else e.K)).1).2.2
     ·rw[hl] at l;simp only[Bool.false_eq_true,if_false];exact⟨l.1,fun h=>(by cases h),fun _=>l.2.2 rfl⟩
     ·rw[hl] at l;simp only[if_true];exact⟨l.1,fun _=>l.2.1 rfl,fun h=>(by cases h)⟩
    ·rw[hb] at b;simp only[if_true];show(St.eds c els (St.eds c body (e.next.pass c k)).2).2.done=_∧(_→(St.eds c els (St.eds c body (e.next.pass c k)).2).2.fl=_)∧(_→(St.eds c els (St.eds c body (e.next.pass c k)).2).2.K=_)
     rw[eds_done c els _ b.1];exact⟨b.1,fun _=>b.2.1 rfl,fun h=>(by cases h)⟩
   ·rw[hh] at hhere;rw[ed_in c (.mk k nm fr sec mt ex args body els) e hhere hx hi,St.mu];simp only[hh,if_true];show(St.eds c els ((St.eds c body (e.next.pass c k)).2.next.did mt)).2.done=_∧(_→(St.eds c els ((St.eds c body (e.next.pass c k)).2.next.did mt)).2.fl=_)∧(_→(St.eds c els ((St.eds c body (e.next.pass c k)).2.next.did mt)).2.K=_)
    rw[eds_done c els ((St.eds c body (e.next.pass c k)).2.next.did mt) rfl];exact⟨rfl,fun _=>rfl,fun h=>(by cases h)⟩
theorem mus_ed (c:EdC) (hk:c.kd.toNat=8) (hi:c.inside=true) (hx:c.extra=false):∀(l:List St) (e:EdS),e.done=false→(St.eds c l e).2.done=(St.mus l e.K).2.2∧((St.mus l e.K).2.2=true→(St.eds c l e).2.fl=(St.mus l e.K).2.1)∧((St.mus l e.K).2.2=false→(St.eds c l e).2.K=(St.mus l e.K).1)
 |[],e,hd=>by rw[St.eds,St.mus];exact⟨hd,fun h=>(by cases h),fun _=>rfl⟩
 |s::l,e,hd=>by
  rw[St.eds,St.mus];simp only;have h:=mu_ed c hk hi hx s e hd;cases hs:(s.mu e.K).2.2
  ·rw[hs] at h;simp only[Bool.false_eq_true,if_false];have h2:=mus_ed c hk hi hx l (s.ed c e).2 h.1;rw[h.2.2 rfl] at h2;exact h2
  ·rw[hs] at h;simp only[if_true];rw[eds_done c l _ h.1];exact⟨h.1.trans hs.symm,fun _=>h.2.1 rfl,fun h'=>(by rw[hs] at h';cases h')⟩
end
theorem mus_cons (s:St) (l:List St) (n:Int):St.mus (s::l) n=if(s.mu n).2.2=true then s.mu n else St.mus l (s.mu n).1:=by rw[St.mus]
theorem mus_nil (n:Int):St.mus [] n=(n,false,false):=by rw[St.mus]
theorem mus_app:∀(l r:List St) (n:Int),St.mus (l++r) n=if(St.mus l n).2.2=true then St.mus l n else St.mus r (St.mus l n).1
 |[],r,n=>by rw[List.nil_append,mus_nil,if_neg Bool.false_ne_true]
 |s::l,r,n=>by
  rw[List.cons_append,mus_cons,mus_cons];by_cases h:(s.mu n).2.2=true
  ·rw[if_pos h,if_pos h,if_pos h]
  ·rw[if_neg h,if_neg h];exact mus_app l r _
def muR (s:St) (m:Int):Int×Bool×Bool:=if(St.mus s.body m).2.2=true then((St.mus s.body m).1,(St.mus s.body m).2.1,true) else if(St.mus s.els (St.mus s.body m).1).2.2=true then((St.mus s.els (St.mus s.body m).1).1,(St.mus s.els (St.mus s.body m).1).2.1,true) else((St.mus s.els (St.mus s.body m).1).1,false,false)
theorem mu_eq (s:St) (n:Int):s.mu n=if(s.kind.toNat==8&&n==0)=true then(0,s.mt,true) else muR s (if(s.kind.toNat==8)=true then n-1 else n):=by
 cases s;rw[St.mu];rfl
theorem muR_no {s:St} {n:Int} (h:(muR s n).2.2=false):muR s n=((muR s n).1,false,false):=by
 unfold muR at h ⊢;by_cases h1:(St.mus s.body n).2.2=true
 ·rw[if_pos h1] at h;cases h
 ·rw[if_neg h1] at h ⊢;by_cases h2:(St.mus s.els (St.mus s.body n).1).2.2=true
  ·rw[if_pos h2] at h;cases h
  ·rw[if_neg h2]
theorem mu_no {s:St} {n:Int} (h:(s.mu n).2.2=false):s.mu n=((s.mu n).1,false,false):=by
 rw[mu_eq] at h ⊢;by_cases h1:(s.kind.toNat==8&&n==0)=true
 ·rw[if_pos h1] at h;cases h
 ·rw[if_neg h1] at h ⊢;exact muR_no h
theorem mus_snoc (l:List St) (j:Nat) (h:j<l.length) (n:Int) (hn:(St.mus (l.take j) n).2.2=false) (hs:(St.mu l[j] (St.mus (l.take j) n).1).2.2=false):
  St.mus (l.take (j+1)) n=St.mu l[j] (St.mus (l.take j) n).1:=by
 rw[List.take_succ_eq_append_getElem h,mus_app,hn,if_neg (by decide),mus_cons,hs,if_neg (by decide),mus_nil];exact(mu_no hs).symm
theorem mus_hit (l:List St) (j:Nat) (h:j<l.length) (n:Int) (hn:(St.mus (l.take j) n).2.2=false) (hs:(St.mu l[j] (St.mus (l.take j) n).1).2.2=true):
  St.mus l n=St.mu l[j] (St.mus (l.take j) n).1:=by
 have e:l=l.take j++(l[j]::l.drop (j+1)):=by rw[←List.drop_eq_getElem_cons h,List.take_append_drop]
 conv=>lhs;rw[e]
 rw[mus_app,hn,if_neg (by decide),mus_cons,if_pos hs]
theorem muR_bd {s:St} {m:Int} (b:0≤(St.mus s.body m).1∧(St.mus s.body m).1≤m) (l:0≤(St.mus s.els (St.mus s.body m).1).1∧(St.mus s.els (St.mus s.body m).1).1≤(St.mus s.body m).1):0≤(muR s m).1∧(muR s m).1≤m:=by
 unfold muR;by_cases h1:(St.mus s.body m).2.2=true
 ·rw[if_pos h1];exact b
 ·rw[if_neg h1];by_cases h2:(St.mus s.els (St.mus s.body m).1).2.2=true
  ·rw[if_pos h2];exact⟨l.1,Int.le_trans l.2 b.2⟩
  ·rw[if_neg h2];exact⟨l.1,Int.le_trans l.2 b.2⟩
mutual
theorem mu_bd:∀(s:St) (n:Int),0≤n→0≤(s.mu n).1∧(s.mu n).1≤n
 | .mk k nm fr sec mt ex args body els,n,h=>by
   rw[mu_eq];by_cases h1:((St.mk k nm fr sec mt ex args body els).kind.toNat==8&&n==0)=true
   ·rw[if_pos h1];exact⟨Int.le_refl _,h⟩
   ·rw[if_neg h1];obtain⟨m,hm⟩:∃m,m=(if((St.mk k nm fr sec mt ex args body els).kind.toNat==8)=true then n-1 else n):=⟨_,rfl⟩;rw[←hm];have hn1:0≤m∧m≤n:=by
     rw[hm];by_cases h8:((St.mk k nm fr sec mt ex args body els).kind.toNat==8)=true
     ·rw[if_pos h8];rw[h8,Bool.true_and,beq_iff_eq] at h1;omega
     ·rw[if_neg h8];omega
    have b:=mus_bd body m hn1.1;have l:=mus_bd els (St.mus body m).1 b.1;have r:=muR_bd (s:=.mk k nm fr sec mt ex args body els) b l;exact⟨r.1,Int.le_trans r.2 hn1.2⟩
theorem mus_bd:∀(l:List St) (n:Int),0≤n→0≤(St.mus l n).1∧(St.mus l n).1≤n
 |[],n,h=>by rw[mus_nil];exact⟨h,Int.le_refl _⟩
 |s::l,n,h=>by
  rw[mus_cons];have h1:=mu_bd s n h;by_cases h2:(s.mu n).2.2=true
  ·rw[if_pos h2];exact h1
  ·rw[if_neg h2];have h2:=mus_bd l (s.mu n).1 h1.1;exact⟨h2.1,Int.le_trans h2.2 h1.2⟩
end
theorem mus_no:∀{l:List St} {n:Int},(St.mus l n).2.2=false→St.mus l n=((St.mus l n).1,false,false)
 |[],n,_=>by rw[mus_nil]
 |s::l,n,h=>by
  rw[mus_cons] at h ⊢;by_cases h2:(s.mu n).2.2=true
  ·rw[if_pos h2,h2] at h;cases h
  ·rw[if_neg h2] at h ⊢;exact mus_no h
theorem mut_any (N:Nat):∀(l:List St) (ok:Nat→Prop) (A:Option Addr) (c:Nat) (w:World) (n:Int),St.sizes l≤N→0≤n→n≤1000→RdRows ok w 9 A 0 (St.ds l)→l.length*144≤reach→
  Calls Tryz.prog 28 #[.slice A l.length c,.int .i64 n] w fun e w'=>e= .returned (.tuple #[.int .i64 (St.mus l n).1,.bool (St.mus l n).2.1,.bool (St.mus l n).2.2])∧Fr Non w w':=by
 induction N with
 |zero=>
  intro l ok A c w n hN hn0 hn1 hr hc;obtain rfl:l=[]:=by cases l with|nil=>rfl|cons s l=>cases s;simp[St.sizes,St.size] at hN
  go_enter Tryz.func28,Tryz.ntmps28;go_wp2_with fail;refine wp_loop_rounds 1 ?_;rw[rounds_succ];go_wp2_with fail;rw[mus_nil];exact bodyPost_ret (v:=.tuple #[.int .i64 n,.bool false,.bool false]) (by simp[results,Tryz.results28,go_sem]) rfl ⟨rfl,Zf _⟩
 |succ N ih=>
 intro l ok A c w n hN hn0 hn1 hr hc;have hlen:l.length≤140737488355328:=by unfold reach at hc;omega
 have IH:=Zh ih;clear ih;have HR:=Zh hr;clear hr;have HC:=Zh hc;clear hc;have HNN:=Zh hN;clear hN;have HN0:=Zh (And.intro hn0 hn1);clear hn0 hn1;go_enter Tryz.func28,Tryz.ntmps28;go_wp2_with fail
 go_loopw [1,7] (fun v i wr=>∃j:Nat,v= .int .i64 (St.mus (l.take j) n).1∧i= .int .i64 j∧j≤l.length∧Fr Non w wr∧(St.mus (l.take j) n).2.2=false) (fun _ i _=>l.length-(intOf i).toNat)
 case atStart=>exact⟨0,by rw[List.take_zero,St.mus],rfl,by omega,Zf _,by rw[List.take_zero,St.mus]⟩
 case round=>
  obtain⟨j,rfl,rfl,hj,hfr,hno⟩:=hrel;have hbd:=mus_bd (l.take j) n HN0.out.1;have hN1:=HN0.out.2;by_cases hlt:j<l.length
  ·obtain⟨b,o1,A1,c1,A2,c2,A3,c3,A4,c4,rfl,hb,e0,e1,e2,e3,e4,e5,e6,e7,e8,⟨p1,q1,r1⟩,⟨p2,q2,r2⟩,⟨p3,q3,r3⟩,⟨p4,q4,r4⟩⟩:=at_st (HR.out.fr hfr (fun _ _=>non _) (fun _ h=>h)) j hlt;have R3:=Zh r3;clear r3;have R4:=Zh r4;clear r4;have HQ:=Zh (ssize_le l j hlt);have HSN:=Zh (mus_snoc l j hlt n hno);have HHT:=Zh (mus_hit l j hlt n hno)
   have HF:=Zh hfr;clear hfr r1 r2;obtain⟨m,hm⟩:∃m,m=(St.mus (l.take j) n).1:=⟨_,rfl⟩;rw[←hm] at hbd HSN HHT ⊢;have hm0:=hbd.1;have hm1:m≤1000:=by omega
   clear hbd hN1 hm hno;obtain⟨s,hs⟩:∃s,l[j]=s:=⟨_,rfl⟩;rw[hs] at HSN HHT HQ R3 R4 e0 e4 e7 e8 p3 q3 p4 q4;clear e1 e2 e3 e5 e6 p1 q1 p2 q2 hs;have hmu:=mu_eq s m;by_cases h8:s.kind.toNat=8
   ·have hk:((s.kind.toNat:Int)==8)=true:=by rw[h8];rfl
    have hk8:(s.kind.toNat==8)=true:=by rw[h8];rfl
    rw[hk8,Bool.true_and] at hmu;by_cases h0:m=0
    ·subst h0;rw[if_pos (by rfl)] at hmu;have HMU:=Zh (HHT.out (by rw[hmu]));rw[hmu] at HMU;clear hmu hk8 h8;go_upto_region 6 with fail
     go_region_with (fail)
     all_goals
      go_wp2_with fail;exact bodyPost_ret (v:=.tuple #[.int .i64 0,.bool s.mt,.bool true]) (by simp[results,Tryz.results28,go_sem]) rfl ⟨by rw[HMU.out],HF.out.drew⟩
    ·have hm2:(m==0)=false:=by rw[beq_eq_false_iff_ne];exact h0
     obtain⟨m',hm'⟩:∃x,x=m-1:=⟨_,rfl⟩;rw[hm2,if_neg (by decide),if_pos rfl,←hm'] at hmu;unfold muR at hmu;have hm3:0≤m'∧m'≤1000:=by omega
     have HMU:=Zh hmu;have HM3:=Zh hm3
     clear hmu hk8 h8 hm3;go_upto_region 8 with fail;rw[←hm'];clear hk hm2 h0 hm';go_wp2_with fail;refine(IH.out s.body ok A3 c3 wr m' (by have:=HNN.out;have:=HQ.out;rw[St.size_eq] at this;omega) HM3.out.1 HM3.out.2 R3.out q3).mono ?_;rintro e w2 ⟨rfl,hf2⟩;have HF2:=Zh (HF.out.trans hf2);have y7:=hf2.cell' e7 (non _);have y8:=hf2.cell' e8 (non _);have R4':=Zh (R4.out.fr hf2 (fun _ _=>non _) fun _ h=>h);have hb1:=mus_bd s.body m' HM3.out.1;obtain⟨⟨b1,b2,b3⟩,hbb⟩:∃b,b=St.mus s.body m':=⟨_,rfl⟩;have hmu2:=HMU.out;rw[←hbb] at hb1 hmu2 ⊢;simp only at hb1 hmu2 ⊢;have HB1:=Zh (show 0≤b1∧b1≤1000 from⟨hb1.1,by have:=HM3.out.2;omega⟩);have HMU2:=Zh hmu2;clear hf2 e0 e4 e7 e8 hb1 hbb hmu2 HMU;cases b3
     ·go_wp2_with fail;refine(IH.out s.els ok A4 c4 w2 b1 (by have:=HNN.out;have:=HQ.out;rw[St.size_eq] at this;omega) HB1.out.1 HB1.out.2 R4'.out q4).mono ?_;rintro e w3 ⟨rfl,hf3⟩;have HF3:=Zh (HF2.out.trans hf3);obtain⟨⟨g1,g2,g3⟩,hgg⟩:∃b,b=St.mus s.els b1:=⟨_,rfl⟩;have hmu3:=HMU2.out;rw[←hgg] at hmu3 ⊢;simp only[Bool.false_eq_true,if_false] at hmu3 ⊢;have HMU3:=Zh hmu3;clear hf3 y7 y8 hmu3 hgg HMU2;cases g3
      ·have hq:=HSN.out (by rw[HMU3.out];rfl);rw[HMU3.out] at hq;have HQQ:=Zh hq;clear hq;go_wp2_with fail;go_roundw
       case rel=>exact⟨j+1,by rw[HQQ.out];rfl,by go_num,by omega,HF3.out,by rw[HQQ.out];rfl⟩
       case measure=>simp[intOf];omega
      ·have hq:=HHT.out (by rw[HMU3.out];rfl);rw[HMU3.out] at hq;have HQQ:=Zh hq;clear hq;go_wp2_with fail;exact bodyPost_ret (v:=.tuple #[.int .i64 g1,.bool g2,.bool true]) (by simp[results,Tryz.results28,go_sem]) rfl ⟨by rw[HQQ.out];rfl,HF3.out⟩
     ·have hq:=HHT.out (by rw[HMU2.out];rfl);rw[HMU2.out] at hq;have HQQ:=Zh hq;clear hq;go_wp2_with fail;exact bodyPost_ret (v:=.tuple #[.int .i64 b1,.bool b2,.bool true]) (by simp[results,Tryz.results28,go_sem]) rfl ⟨by rw[HQQ.out];rfl,HF2.out⟩
   ·have hk:((s.kind.toNat:Int)==8)=false:=by rw[beq_eq_false_iff_ne];omega
    have hk8:(s.kind.toNat==8)=false:=by rw[beq_eq_false_iff_ne];exact h8
    rw[hk8,Bool.false_and,if_neg (by decide),if_neg (by decide)] at hmu;unfold muR at hmu;have hm3:0≤m∧m≤1000:=by omega
    have HMU:=Zh hmu;have HM3:=Zh hm3
    clear hmu hk8 h8 hm3;go_upto_region 8 with fail;clear hk;go_wp2_with fail;refine(IH.out s.body ok A3 c3 wr m (by have:=HNN.out;have:=HQ.out;rw[St.size_eq] at this;omega) HM3.out.1 HM3.out.2 R3.out q3).mono ?_;rintro e w2 ⟨rfl,hf2⟩;have HF2:=Zh (HF.out.trans hf2);have y7:=hf2.cell' e7 (non _);have y8:=hf2.cell' e8 (non _);have R4':=Zh (R4.out.fr hf2 (fun _ _=>non _) fun _ h=>h);have hb1:=mus_bd s.body m HM3.out.1;obtain⟨⟨b1,b2,b3⟩,hbb⟩:∃b,b=St.mus s.body m:=⟨_,rfl⟩;have hmu2:=HMU.out;rw[←hbb] at hb1 hmu2 ⊢;simp only at hb1 hmu2 ⊢;have HB1:=Zh (show 0≤b1∧b1≤1000 from⟨hb1.1,by have:=HM3.out.2;omega⟩);have HMU2:=Zh hmu2;clear hf2 e0 e4 e7 e8 hb1 hbb hmu2 HMU;cases b3
    ·go_wp2_with fail;refine(IH.out s.els ok A4 c4 w2 b1 (by have:=HNN.out;have:=HQ.out;rw[St.size_eq] at this;omega) HB1.out.1 HB1.out.2 R4'.out q4).mono ?_;rintro e w3 ⟨rfl,hf3⟩;have HF3:=Zh (HF2.out.trans hf3);obtain⟨⟨g1,g2,g3⟩,hgg⟩:∃b,b=St.mus s.els b1:=⟨_,rfl⟩;have hmu3:=HMU2.out;rw[←hgg] at hmu3 ⊢;simp only[Bool.false_eq_true,if_false] at hmu3 ⊢;have HMU3:=Zh hmu3;clear hf3 y7 y8 hmu3 hgg HMU2;cases g3
     ·have hq:=HSN.out (by rw[HMU3.out];rfl);rw[HMU3.out] at hq;have HQQ:=Zh hq;clear hq;go_wp2_with fail;go_roundw
      case rel=>exact⟨j+1,by rw[HQQ.out];rfl,by go_num,by omega,HF3.out,by rw[HQQ.out];rfl⟩
      case measure=>simp[intOf];omega
     ·have hq:=HHT.out (by rw[HMU3.out];rfl);rw[HMU3.out] at hq;have HQQ:=Zh hq;clear hq;go_wp2_with fail;exact bodyPost_ret (v:=.tuple #[.int .i64 g1,.bool g2,.bool true]) (by simp[results,Tryz.results28,go_sem]) rfl ⟨by rw[HQQ.out];rfl,HF3.out⟩
    ·have hq:=HHT.out (by rw[HMU2.out];rfl);rw[HMU2.out] at hq;have HQQ:=Zh hq;clear hq;go_wp2_with fail;exact bodyPost_ret (v:=.tuple #[.int .i64 b1,.bool b2,.bool true]) (by simp[results,Tryz.results28,go_sem]) rfl ⟨by rw[HQQ.out];rfl,HF2.out⟩
  ·go_wp2_with fail;obtain rfl:j=l.length:=by omega
   rw[List.take_length] at hno ⊢;exact bodyPost_ret (v:=.tuple #[.int .i64 (St.mus l n).1,.bool false,.bool false]) (by simp[results,Tryz.results28,go_sem]) rfl ⟨by rw[mus_no hno],hfr⟩
end Go.Proofs.YtpkpgmnbheenbaaGreatDoor
