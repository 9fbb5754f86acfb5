/- Contracts and laws, Mg18 -/
import Derived.Test.YtgiomfnpkkdknaaGreatDoorMg01
import Derived.Test.YtgiomfnpkkdknaaGreatDoorMg03
import Derived.Test.YtgiomfnpkkdknaaGreatDoorMg17
namespace Go.Proofs.YtgiomfnpkkdknaaGreatDoor
open Go.RowKit
set_option linter.unusedVariables false
set_option linter.unusedSimpArgs false
set_option maxHeartbeats 8000000
set_option maxRecDepth 100000
def Pa.rnSs:List Pa→List ByteArray→List Pa×List ByteArray
 |[],L=>([],L)
 |x::l,L=>let a:=rnOf L x.name;let q:=Pa.rnSs l a.2;(⟨a.1,x.buf,x.sec,x.mt⟩::q.1,q.2)
def Fu.rnS (f:Fu) (L:List ByteArray):Fu×List ByteArray:=
 let a:=rnOf L f.name;let b:=Pa.rnSs f.params a.2;let c:=St.rnSs f.body b.2;let d:=Ex.rnSs f.ret c.2
 (⟨a.1,b.1,c.1,f.sec,d.1⟩,d.2)
def Fu.rnSs:List Fu→List ByteArray→List Fu×List ByteArray
 |[],L=>([],L)
 |x::l,L=>let a:=x.rnS L;let q:=Fu.rnSs l a.2;(a.1::q.1,q.2)
def renP (P:List Fu):List Fu:=(Fu.rnSs P []).1
def Fu.nms (f:Fu):Nat:=1+f.params.length+St.nmss f.body+Ex.sizes f.ret
def Fu.nmss:List Fu→Nat
 |[]=>0
 |f::l=>f.nms+Fu.nmss l
theorem rnPa_length:∀(l:List Pa) (L:List ByteArray),(Pa.rnSs l L).1.length=l.length
 |[],_=>rfl
 |e::l,L=>by rw[Pa.rnSs];simp[rnPa_length l]
theorem rnPa_snoc:∀(l:List Pa) (x:Pa) (L:List ByteArray),Pa.rnSs (l++[x]) L=((Pa.rnSs l L).1++[⟨(rnOf (Pa.rnSs l L).2 x.name).1,x.buf,x.sec,x.mt⟩],(rnOf (Pa.rnSs l L).2 x.name).2)
 |[],x,L=>by rw[List.nil_append,Pa.rnSs,Pa.rnSs,Pa.rnSs];rfl
 |e::l,x,L=>by rw[List.cons_append,Pa.rnSs,rnPa_snoc l x,Pa.rnSs];rfl
theorem rnPa_len:∀(l:List Pa) (L:List ByteArray),L.length≤(Pa.rnSs l L).2.length∧(Pa.rnSs l L).2.length≤L.length+l.length
 |[],L=>by simp[Pa.rnSs]
 |e::l,L=>by
  have h1:=rnOf_len L e.name;have h2:=rnPa_len l (rnOf L e.name).2;rw[Pa.rnSs];simp only[List.length_cons];omega
theorem rnFu_len (f:Fu) (L:List ByteArray):L.length≤(f.rnS L).2.length∧(f.rnS L).2.length≤L.length+f.nms:=by
 have h1:=rnOf_len L f.name;have h2:=rnPa_len f.params (rnOf L f.name).2;have h3:=rnStS_len f.body (Pa.rnSs f.params (rnOf L f.name).2).2;have h4:=rnSs_len f.ret (St.rnSs f.body (Pa.rnSs f.params (rnOf L f.name).2).2).2;unfold Fu.rnS Fu.nms;simp only;omega
theorem rnFuS_length:∀(l:List Fu) (L:List ByteArray),(Fu.rnSs l L).1.length=l.length
 |[],_=>rfl
 |e::l,L=>by rw[Fu.rnSs];simp[rnFuS_length l]
theorem rnFuS_snoc:∀(l:List Fu) (x:Fu) (L:List ByteArray),Fu.rnSs (l++[x]) L=((Fu.rnSs l L).1++[(x.rnS (Fu.rnSs l L).2).1],(x.rnS (Fu.rnSs l L).2).2)
 |[],x,L=>by rw[List.nil_append,Fu.rnSs,Fu.rnSs,Fu.rnSs];rfl
 |e::l,x,L=>by rw[List.cons_append,Fu.rnSs,rnFuS_snoc l x,Fu.rnSs];rfl
theorem rnFuS_len:∀(l:List Fu) (L:List ByteArray),L.length≤(Fu.rnSs l L).2.length∧(Fu.rnSs l L).2.length≤L.length+Fu.nmss l
 |[],L=>by simp[Fu.rnSs]
 |e::l,L=>by
  have h1:=rnFu_len e L;have h2:=rnFuS_len l (e.rnS L).2;rw[Fu.rnSs,Fu.nmss];simp only;omega
theorem fu_len_nmss (l:List Fu):l.length≤Fu.nmss l:=by
 induction l with
 |nil=>simp
 |cons e l ih=>simp[Fu.nmss,Fu.nms];omega
theorem fu_take_nmss (l:List Fu) (j:Nat) (h:j<l.length):Fu.nmss (l.take j)+l[j].nms≤Fu.nmss l:=by
 induction l generalizing j with
 |nil=>simp at h
 |cons e l ih=>cases j with
  |zero=>simp[Fu.nmss]
  |succ j=>have:=ih j (by simpa using h);simp[Fu.nmss];omega
theorem renP_length (P:List Fu):(renP P).length=P.length:=rnFuS_length _ _
abbrev fuB (nm:ByteArray) (v1 v2:Value) (sec:Bool) (v4:Value):Array Value:=#[.string nm,v1,v2,.bool sec,v4]
theorem renamed_any (P:List Fu) (ok:Nat→Prop) (A:Option Addr) (c:Nat) (w:World) (hr:RdRows ok w 5 A 0 (P.map Fu.d)) (hlc:P.length≤c) (hc:P.length*96≤reach) (hok:∀q,ok q→q<w.heap.size) (hL:Fu.nmss P≤1099511627776):
  Calls Tryz.prog 13 #[.agg #[.slice A P.length c]] w fun e w'=>∃A' c',e= .returned (.agg #[.slice A' P.length c'])∧Fr Non w w'∧P.length≤c'∧RdRows (New w.heap.size w') w' 5 A' 0 ((renP P).map Fu.d):=by
 have hlen:P.length≤140737488355328:=by unfold reach at hc;omega
 have HLS:=Zh (fu_len_nmss P);obtain⟨Wa,HWa⟩:∃W,W=((w.alloc (.cells #[.slice A P.length c] 24)).alloc (.cells #[.slice none 0 0] 24)).alloc (.cells #[.slice none 0 0,.slice none 0 0] 54):=⟨_,rfl⟩;obtain⟨W0,HW0⟩:∃W,W=Wa.alloc (.cells #[.slice none 0 0] 24):=⟨_,rfl⟩;have hfa:Fr Non w Wa:=by rw[HWa];exact(((Zf w).alloc _).alloc _).alloc _
 have hza:Wa.heap.size=w.heap.size+3:=by rw[HWa];simp
 have hf0:Fr Non Wa W0:=by rw[HW0];exact(Zf Wa).alloc _
 have hz0:W0.heap.size=w.heap.size+4:=by rw[HW0];simp[hza]
 have ha0:Wa.heap[w.heap.size]? =some (.cells #[.slice A P.length c] 24 (0,0)):=by rw[HWa];exact blk_old (blk_old (blk_new _ _ _))
 have ha1:Wa.heap[w.heap.size+1]? =some (.cells #[.slice none 0 0] 24 (0,0)):=by rw[HWa];exact blk_old (blk_new' (by simp) _ _)
 have ha2:Wa.heap[w.heap.size+2]? =some (.cells #[.slice none 0 0,.slice none 0 0] 54 (0,0)):=by rw[HWa];exact blk_new' (by simp) _ _
 have ho0:W0.heap[w.heap.size+3]? =some (.cells #[.slice none 0 0] 24 (0,0)):=by rw[HW0];exact blk_new' hza _ _
 have hat:RnAt (w.heap.size+2) (w.heap.size+2) Wa [] (.slice none 0 0) (.slice none 0 0):=
  ⟨ha2,World.ownsRow_nil _ _ _ _,World.ownsRow_nil _ _ _ _,(fun h=>by cases h),(fun h=>by cases h),(fun _ h=>by cases h),Nat.le_refl _⟩
 have HR:=Zh (hr.fr hfa (fun _ _=>non _) (fun _ h=>h));clear hr;have HOK:=Zh hok;clear hok;have HFA:=Zh hfa;have HA0:=Zh ha0;have HA1:=Zh ha1;have HO0:=Zh ho0
 have HP0:=Zh (RnP.refl hat hf0);have HAT:=Zh hat;clear hfa ha0 ha1 ha2 ho0 hf0 hat;go_enter Tryz.func13,Tryz.ntmps13;go_upto_region 3 with fail;rw[show((((w.alloc (.cells #[.slice A P.length c] 24)).alloc (.cells #[.slice none 0 0] 24)).alloc (.cells #[.slice none 0 0,.slice none 0 0] 54)).alloc (.cells #[.slice none 0 0] 24))=W0 by rw[HW0,HWa]];clear HW0 HWa;obtain⟨br,hbr⟩:∃b,w.heap.size+1=b:=⟨_,rfl⟩;rw[hbr];obtain⟨bs,hbs⟩:∃b,br+1=b:=⟨_,rfl⟩;rw[hbs];obtain⟨bo,hbo⟩:∃b,bs+1=b:=⟨_,rfl⟩;rw[hbo];rw[show w.heap.size+2=bs by omega] at HP0 HAT;rw[hbr] at HA1;rw[show w.heap.size+3=bo by omega] at HO0;have hzo:Wa.heap.size=bo:=by omega
 have hnr:∀(wr:World) (L':List ByteArray) (va vb:Value),RnP bs bs Wa (.slice none 0 0) (.slice none 0 0) wr L' va vb→∀k,k<bs→¬RS bs va vb k:=fun wr L' va vb h k hk hr=>by
  rcases h.grow k hr with h|h
  ·rcases h with h|h|h
   ·omega
   ·cases h
   ·cases h
  ·omega
 have hno:¬RS bs (.slice none 0 0) (.slice none 0 0) bo:=by
  rintro(h|h|h)
  ·omega
  ·cases h
  ·cases h
 have HNR:=Zh hnr;have HNO:=Zh hno;clear hnr hno
 go_wp2_with fail
 go_loopw [5] (fun i wr=>∃(j:Nat) (va2 vb2 v:Value),i= .int .i64 j∧j≤P.length∧RnP bs bs Wa (.slice none 0 0) (.slice none 0 0) wr (Fu.rnSs (P.take j) []).2 va2 vb2∧¬RS bs va2 vb2 bo∧
  wr.heap[bo]? =some (.cells #[v] 24 (0,0))∧OwnN (bo+1) bs 36 5 wr va2 vb2 v ((Fu.rnSs (P.take j) []).1.map Fu.d)) (fun i _=>P.length-(intOf i).toNat)
 case atStart=>exact⟨0,_,_,_,rfl,by omega,HP0.out,HNO.out,HO0.out,OwnN.nil _ _ _ _ _ _ _⟩
 case round=>
  obtain⟨j,va2,vb2,v,rfl,hj,hp,hqo,hbv,hown⟩:=hrel;obtain⟨A0,c0,rfl,hc0⟩:=hown.slice;have hn:((Fu.rnSs (P.take j) []).1.map Fu.d).length=j:=by rw[List.length_map,rnFuS_length,List.length_take];omega
  rw[hn] at hc0 hown hbv;have hzr:bo<wr.heap.size:=blk_lt hbv;have hfp:=Zb HA0.out hp.fr (by rintro(h|h|h);omega;cases h;cases h);have hfr:=Zb HA1.out hp.fr (by rintro(h|h|h);omega;cases h;cases h);have p0:=(Zc hfp).1 0 _ rfl;have HN:=Zh hn;have HP:=Zh hp;have HQO:=Zh hqo;have HBV:=Zh hbv;have HOW:=Zh hown;have HFP:=Zh hfp;have HFR:=Zh hfr
  clear hn hp hqo hbv hown hfp hfr;by_cases hlt:j<P.length
  ·obtain⟨b,o1,A1,c1,A2,c2,A3,c3,rfl,hb,e0,e1,e2,e3,e4,⟨p1,q1,r1⟩,⟨p2,q2,r2⟩,⟨p3,q3,r3⟩⟩:=at_fu (HR.out.fr HP.out.fr (fun q hq h=>by have:=HOK.out q hq;rcases h with h|h|h;omega;cases h;cases h) (fun _ h=>h)) j hlt;have HTS:=Zh (take_snoc P j hlt);have HLN:=Zh (rnFuS_len (P.take j) []);have HLM:=Zh (fu_take_nmss P j hlt);generalize hf:P[j]=f at*;clear hf;have R1:=Zh r1;have R2:=Zh r2;have R3:=Zh r3
   clear r1 r2 r3;have hL0:(Fu.rnSs (P.take j) []).2.length+(1+f.params.length+St.nmss f.body+Ex.sizes f.ret)≤1099511627776:=by have:=HLN.out;have:=HLM.out;rw[Fu.nms] at this;simp at*;omega
   have hm1:f.params.length≤140737488355328:=by unfold reach at q1;omega
   have hm2:f.ret.length≤140737488355328:=by unfold reach at q3;omega
   obtain⟨L0,hL0e⟩:∃L0,L0=(Fu.rnSs (P.take j) []).2:=⟨_,rfl⟩;have HP0':=HP.out;rw[←hL0e] at HP0' hL0;have HL0E:=Zh hL0e;clear hL0e;have HPP:=Zh HP0';clear HP0';obtain⟨wp,rfl⟩:∃wp:World,wp=wr:=⟨_,rfl⟩;go_upto_region 7 with fail;obtain⟨W1,HW1⟩:∃W1,W1=wp.alloc (.cells (fuB f.name (.slice A1 f.params.length c1) (.slice A2 f.body.length c2) f.sec (.slice A3 f.ret.length c3)) 36):=⟨_,rfl⟩;rw[show(wp.alloc (.cells #[.string f.name,.slice A1 f.params.length c1,.slice A2 f.body.length c2,.bool f.sec,.slice A3 f.ret.length c3] 36))=W1 from HW1.symm];have hf1:Fr Non wp W1:=by rw[HW1];exact(Zf wp).alloc _
   have hb1:W1.heap[wp.heap.size]? =some (.cells (fuB f.name (.slice A1 f.params.length c1) (.slice A2 f.body.length c2) f.sec (.slice A3 f.ret.length c3)) 36 (0,0)):=by rw[HW1];exact blk_new _ _ _
   have hz1:W1.heap.size=wp.heap.size+1:=by rw[HW1];simp
   clear HW1 e0 e1 e2 e3 e4 p0;have HLT2:=Zh HPP.out.at_.lt;have hp1:RnP bs bs wp va2 vb2 W1 L0 va2 vb2:=RnP.refl HPP.out.at_ hf1;have hq1:¬RS bs va2 vb2 wp.heap.size:=fun h=>by have:=(HLT2.out _ h).2;omega
   have g1:=(Zc hb1).1 0 _ rfl;have B1:=Zh hb1;have P1:=Zh hp1;have Q1:=Zh hq1;clear hb1 hp1 hq1 hf1
   go_wp2_with fail;refine(of_any bs bs W1 L0 va2 vb2 f.name P1.out.at_ (by omega)).mono ?_;rintro e w2 ⟨rfl,hst⟩;obtain⟨va3,vb3,hp⟩:=hst.p;obtain⟨xn',hxn'⟩:∃x,x=(rnOf L0 f.name).1:=⟨_,rfl⟩;obtain⟨L1,hL1⟩:∃L1,L1=(rnOf L0 f.name).2:=⟨_,rfl⟩;rw[←hxn'];rw[←hL1] at hp;have hl1:L1.length≤L0.length+1:=by rw[hL1];exact(rnOf_len L0 f.name).2
   have hb2:=Zb B1.out hp.fr Q1.out;have hq2:=hp.nrs (q:=wp.heap.size) (by omega) Q1.out;have hz2:=hp.fr.size;have hs2:Fr (fun q=>q=wp.heap.size) w2 (w2.setCell ⟨wp.heap.size,0,none⟩ (.string xn')):=(Fr.refl (fun q=>q=wp.heap.size) w2).setCell _ _ (.inl rfl);have hp2:=(P1.out.trans hp).more hs2 (fun q e=>by subst e;exact⟨Nat.le_refl _,hq2⟩);clear g1;have g1:=(Zc hb2).1 0 _ rfl;have gf:=(Zc hb2).2;have hb3:(w2.setCell ⟨wp.heap.size,0,none⟩ (.string xn')).heap[wp.heap.size]? =some (.cells (fuB xn' (.slice A1 f.params.length c1) (.slice A2 f.body.length c2) f.sec (.slice A3 f.ret.length c3)) 36 (0,0)):=blk_set hb2 0 (.string xn');rw[←setCell_size w2 ⟨wp.heap.size,0,none⟩ (.string xn')] at hz2;have B2:=Zh hb3;have P2:=Zh hp2;have Q2:=Zh hq2;have XN:=Zh hxn';have XL1:=Zh hL1
   clear hb2 hb3 hp2 hq2 hst hp hs2 hxn' hL1 B1 P1 Q1;go_upto_region 8 with fail;generalize hw3:World.setCell w2 _ _=w3 at*;clear g1 gf hw3;go_wp2_with fail
   go_loopw [7,8] (fun v i wq=>∃(j2:Nat) (va5 vb5:Value),i= .int .i64 j2∧j2≤f.params.length∧RnP bs bs wp va2 vb2 wq (Pa.rnSs (f.params.take j2) L1).2 va5 vb5∧¬RS bs va5 vb5 wp.heap.size∧
    wq.heap[wp.heap.size]? =some (.cells (fuB xn' (.slice A1 f.params.length c1) (.slice A2 f.body.length c2) f.sec (.slice A3 f.ret.length c3)) 36 (0,0))∧
    OwnN (wp.heap.size+1) bs 39 4 wq va5 vb5 v ((Pa.rnSs (f.params.take j2) L1).1.map Pa.d)) (fun _ i _=>f.params.length-(intOf i).toNat)
   case atStart=>exact⟨0,va3,vb3,rfl,by omega,P2.out,Q2.out,B2.out,OwnN.nil _ _ _ _ _ _ _⟩
   case round=>
    obtain⟨j2,va5,vb5,rfl,hj2,hp5,hq5,hb5,hown5⟩:=hrel;have hz5:wp.heap.size+1≤wr.heap.size:=by have:=blk_lt hb5;omega
    have g5:=(Zc hb5).1 1 _ rfl;obtain⟨A5,c5,rfl,hc5⟩:=hown5.slice;have hn5:((Pa.rnSs (f.params.take j2) L1).1.map Pa.d).length=j2:=by rw[List.length_map,rnPa_length,List.length_take];omega
    rw[hn5] at hc5 hown5 ⊢;have HN5:=Zh hn5;have HP5:=Zh hp5;have HB5:=Zh hb5;have HQ5:=Zh hq5;have HOW5:=Zh hown5
    clear hn5 hp5 hb5 hq5 hown5;by_cases hlt5:j2<f.params.length
    ·obtain⟨b,o1,rfl,hb,e0,e1,e2,e3⟩:=at_pa (R1.out.fr HP5.out.fr (fun q hq h=>by have:=HOK.out q hq;have:=(HLT2.out q h).1;omega) (fun _ h=>h)) j2 hlt5;have HTS5:=Zh (take_snoc f.params j2 hlt5);have HLN5:=Zh (rnPa_len (f.params.take j2) L1);have hlt8:(f.params.take j2).length≤f.params.length:=by rw[List.length_take];omega
     generalize f.params[j2]=y at*;go_upto_region 13 with fail;obtain⟨W6,HW6⟩:∃W1,W1=wr.alloc (.cells #[.string y.name,.bool y.buf,.bool y.sec,.bool y.mt] 39):=⟨_,rfl⟩;rw[←HW6];have hf6:Fr Non wr W6:=by rw[HW6];exact(Zf wr).alloc _
     have hbx:W6.heap[wr.heap.size]? =some (.cells #[.string y.name,.bool y.buf,.bool y.sec,.bool y.mt] 39 (0,0)):=by rw[HW6];exact blk_new _ _ _
     have hz6:W6.heap.size=wr.heap.size+1:=by rw[HW6];simp
     clear HW6 e0 e1 e2 e3;have x0:=(Zc hbx).1 0 _ rfl;have hqx:¬RS bs va5 vb5 wr.heap.size:=fun h=>by have:=(HP5.out.at_.lt _ h).2;omega
     have HBX:=Zh hbx;have HF6:=Zh hf6;have HQX:=Zh hqx;clear hbx hf6 hqx
     go_wp2_with fail;refine(of_any bs bs W6 (Pa.rnSs (f.params.take j2) L1).2 va5 vb5 y.name (HP5.out.at_.stay HF6.out) (by have:=HLN5.out;omega)).mono ?_;rintro e w8 ⟨rfl,hst⟩;obtain⟨va8,vb8,hp8⟩:=hst.p;have hsn:=rnPa_snoc (f.params.take j2) y L1;obtain⟨y',hy'⟩:∃x',x'=(rnOf (Pa.rnSs (f.params.take j2) L1).2 y.name).1:=⟨_,rfl⟩;obtain⟨L8,hL8⟩:∃x',x'=(rnOf (Pa.rnSs (f.params.take j2) L1).2 y.name).2:=⟨_,rfl⟩;rw[←HTS5.out,←hy',←hL8] at hsn;rw[←hL8] at hp8;rw[←hy'];have hbx8:=Zb HBX.out hp8.fr HQX.out;have hqx8:=hp8.nrs (q:=wr.heap.size) (by omega) HQX.out;have hz8:=hp8.fr.size;have hs8:Fr (fun q=>q=wr.heap.size) w8 (w8.setCell ⟨wr.heap.size,0,none⟩ (.string y')):=(Fr.refl (fun q=>q=wr.heap.size) w8).setCell _ _ (.inl rfl);have hp9:=(RnP.pre HF6.out hp8).more hs8 (fun q e=>by subst e;exact⟨Nat.le_refl _,hqx8⟩);clear x0;have x0:=(Zc hbx8).1 0 _ rfl;have xf:=(Zc hbx8).2;have hbx9:(w8.setCell ⟨wr.heap.size,0,none⟩ (.string y')).heap[wr.heap.size]? =some (.cells #[.string y',.bool y.buf,.bool y.sec,.bool y.mt] 39 (0,0)):=blk_set hbx8 0 (.string y');have hz9:=hs8.size;have HSN:=Zh hsn;have HP9:=Zh hp9;have HBX9:=Zh hbx9
     clear hy' hL8 hsn hp8 hst hs8 hp9 hbx8 hbx9 hqx8;go_upto_region 14 with fail;generalize hw9:World.setCell w8 _ _=w9 at*;clear x0 xf hw9;have x0:=(Zc HBX9.out).1 0 _ rfl;have x1:=(Zc HBX9.out).1 1 _ rfl;have x2:=(Zc HBX9.out).1 2 _ rfl;have x3:=(Zc HBX9.out).1 3 _ rfl;obtain⟨⟨cs,hrow,hch⟩,hap⟩:=HOW5.out.go HP9.out;rw[HN5.out] at hrow;have HCH:=Zh hch;have HAP:=Zh hap;have HROW:=Zh hrow
     clear hch hap hrow;go_wp2_with (at_builtin;refine appW_pa rfl _ _ rfl (wp.heap.size+1) (.slice A5 j2 c5) j2 cs rfl (row_fr HROW.out ((Zf w9).alloc _) (fun _ _=>non _)) ⟨w9.heap.size,0,none⟩ 1 rfl [.string y',.bool y.buf,.bool y.sec,.bool y.mt] rfl (new_cells _ _ _) ?one ?b1 ?b2 ?k)
     case one=>intro u hu;simp at hu;rcases hu with rfl|rfl|rfl|rfl<;>rfl
     case b1=>omega
     case b2=>simp;omega
     case k=>
      intro g cap w11 hr11 hf11 hg11;obtain⟨W10,hW10⟩:∃W5,W5=w9.alloc (.cells #[.string y',.bool y.buf,.bool y.sec,.bool y.mt] 39):=⟨_,rfl⟩;have hf10:Fr Non w9 W10:=by rw[hW10];exact(Zf w9).alloc _
      have hf11':Fr (fun k=>(Value.slice A5 j2 c5).ownBlock=some k) W10 w11:=by rw[hW10];exact hf11
      have hg11':(Value.slice A5 j2 c5).ownBlock=some g∨W10.heap.size≤g:=by rw[hW10];simpa using hg11
      have hlast:∀q,(Value.slice A5 j2 c5).ownBlock=some q→wp.heap.size+1≤q∧q<wr.heap.size:=fun q hq=>by
       obtain⟨⟨_,h,_⟩,_⟩:=HOW5.out;exact h.lt q hq
      have hd:Chunks (fun q=>NewX (wp.heap.size+1) bs va8 vb8 W10 q∧(Value.slice A5 j2 c5).ownBlock≠some q) W10 4 [Pa.d ⟨y',y.buf,y.sec,y.mt⟩] [.string y',.bool y.buf,.bool y.sec,.bool y.mt]:=
       ⟨_,[],rfl,rfl,rfl,⟨_,_,rfl,rfl,_,_,rfl,rfl,_,_,rfl,rfl,_,_,rfl,rfl,rfl⟩,rfl⟩
      have how':=OwnN.snoc HAP.out HCH.out (by omega) HN5.out HP9.out.at_ hd hf10 hr11 hf11' hg11';have hp11:=(HP5.out.trans HP9.out).more (hf10.non.trans hf11') (fun q hq=>⟨by have:=(hlast q hq).1;omega,HAP.out q hq⟩);have hq11:=HP9.out.nrs (q:=wp.heap.size) (by omega) HQ5.out;have hb11:=Zb (Zb (Zb HB5.out HP9.out.fr HQ5.out) hf10 (non _)) hf11' (fun e=>by have:=(hlast _ e).1;omega);have HOW11:=Zh how';have HP11:=Zh hp11;have HQ11:=Zh hq11;have HB11:=Zh hb11
      clear how' hp11 hq11 hb11 hd hf11 hr11 hg11 hf10 hf11' hg11' hlast hW10 x0 x1 x2 x3;go_wp2_with fail;go_roundw
      case rel=>exact⟨j2+1,va8,vb8,by go_num,by omega,by rw[HSN.out];exact HP11.out,HQ11.out,HB11.out,by rw[HSN.out];show OwnN _ _ _ _ _ _ _ _ ((_++[(⟨y',y.buf,y.sec,y.mt⟩:Pa)]).map Pa.d);rw[List.map_append];exact HOW11.out⟩
      case measure=>simp[intOf];omega
    ·obtain rfl:j2=f.params.length:=by omega
     have htk:f.params.take f.params.length=f.params:=List.take_length;obtain⟨ps',hps'⟩:∃x,x=(Pa.rnSs f.params L1).1:=⟨_,rfl⟩;obtain⟨L2,hL2⟩:∃L2,L2=(Pa.rnSs f.params L1).2:=⟨_,rfl⟩;have hl2:L2.length≤L1.length+f.params.length:=by rw[hL2];exact(rnPa_len f.params L1).2
     have hpl:ps'.length=f.params.length:=by rw[hps',rnPa_length]
     have hp5:=HP5.out;rw[htk,←hL2] at hp5;have hrw:=HOW5.out.rows;rw[htk,←hps'] at hrw;have hs5:Fr (fun q=>q=wp.heap.size) wr (wr.setCell ⟨wp.heap.size,1,none⟩ (.slice A5 f.params.length c5)):=(Fr.refl (fun q=>q=wp.heap.size) wr).setCell _ _ (.inl rfl);have hp6:=hp5.more hs5 (fun q e=>by subst e;exact⟨Nat.le_refl _,HQ5.out⟩);have hb6:(wr.setCell ⟨wp.heap.size,1,none⟩ (.slice A5 f.params.length c5)).heap[wp.heap.size]? =some (.cells (fuB xn' (.slice A5 f.params.length c5) (.slice A2 f.body.length c2) f.sec (.slice A3 f.ret.length c3)) 36 (0,0)):=blk_set HB5.out 1 _;have hr6:=hrw.toB hs5 (Z:=wr.heap.size) (B':=wp.heap.size+1) (fun k hk e=>by omega) (Nat.le_refl _) (Nat.le_refl _);have gf:=(Zc HB5.out).2;have P6:=Zh hp6;have B6:=Zh hb6;have E6:=Zh hr6;have Q6:=Zh HQ5.out;have XP:=Zh hps';have XL2:=Zh hL2;have HPL:=Zh hpl
     have hz6:wr.heap.size≤(wr.setCell ⟨wp.heap.size,1,none⟩ (.slice A5 f.params.length c5)).heap.size:=hs5.size;obtain⟨Z6,hZ6⟩:∃Z,Z=wr.heap.size:=⟨_,rfl⟩;rw[←hZ6] at E6 hz6;have hZ6':wp.heap.size+1≤Z6:=by omega
     clear hp5 hp6 hb6 hr6 hrw hs5 hps' hL2 hpl HOW5 HP5 HB5 HQ5 HN5;go_upto_region 16 with fail;generalize hw6:World.setCell wr _ _=w6 at*;clear g5 gf hw6 hZ6;have g7:=(Zc B6.out).1 2 _ rfl;go_wp2_with fail;refine(rstmts_any _ f.body ok A2 c2 w6 bs bs L2 va5 vb5 (Nat.le_refl _) (R2.out.fr P6.out.fr (fun q hq h=>by have:=HOK.out q hq;have:=(HLT2.out q h).1;omega) (fun _ h=>h)) p2 q2 (fun q hq=>by have:=HOK.out q hq;omega) P6.out.at_ (by omega)).mono ?_;rintro e w9 ⟨A9,c9,va9,vb9,rfl,hp9,hc9,hr9⟩;obtain⟨xb',hxb'⟩:∃x,x=(St.rnSs f.body L2).1:=⟨_,rfl⟩;obtain⟨L3,hL3⟩:∃L3,L3=(St.rnSs f.body L2).2:=⟨_,rfl⟩;have hl3:L3.length≤L2.length+St.nmss f.body:=by rw[hL3];exact(rnStS_len f.body L2).2
     have hbl:xb'.length=f.body.length:=by rw[hxb',rnStS_length]
     rw[←hL3] at hp9;rw[←hxb'] at hr9;have hz9:=hp9.fr.size;have hs9:Fr (fun q=>q=wp.heap.size) w9 (w9.setCell ⟨wp.heap.size,2,none⟩ (.slice A9 f.body.length c9)):=(Fr.refl (fun q=>q=wp.heap.size) w9).setCell _ _ (.inl rfl);have hq9:=hp9.nrs (q:=wp.heap.size) (by omega) Q6.out;have hp10:=(P6.out.trans hp9).more hs9 (fun q e=>by subst e;exact⟨Nat.le_refl _,hq9⟩);have hb9:=Zb B6.out hp9.fr Q6.out;have hb10:(w9.setCell ⟨wp.heap.size,2,none⟩ (.slice A9 f.body.length c9)).heap[wp.heap.size]? =some (.cells (fuB xn' (.slice A5 f.params.length c5) (.slice A9 f.body.length c9) f.sec (.slice A3 f.ret.length c3)) 36 (0,0)):=blk_set hb9 2 _;have he10:=(E6.out.goB hp9 (by omega)).onB hs9 (fun k h1 h2 e=>by omega);have hbd10:=hr9.toB hs9 (Z:=w9.heap.size) (B':=wp.heap.size+1) (fun k hk e=>by omega) (by omega) (Nat.le_refl _);have gf:=(Zc hb9).2;clear g7;have g7:=(Zc hb9).1 2 _ rfl;have P10:=Zh hp10;have B10:=Zh hb10;have E10:=Zh he10;have D10:=Zh hbd10;have Q10:=Zh hq9;have XB:=Zh hxb';have XL3:=Zh hL3;have HBL:=Zh hbl
     have hz10:w9.heap.size≤(w9.setCell ⟨wp.heap.size,2,none⟩ (.slice A9 f.body.length c9)).heap.size:=hs9.size;obtain⟨Z10,hZ10⟩:∃Z,Z=w9.heap.size:=⟨_,rfl⟩;rw[←hZ10] at D10 hz10;have hZ10':Z6≤Z10:=by omega
     clear hp10 hb10 he10 hbd10 hq9 hb9 hp9 hr9 hs9 hxb' hL3 hbl P6 B6 E6 Q6;have HES:=Zh (ex_len_sizes f.ret);go_upto_region 17 with fail;generalize hw10:World.setCell w9 _ _=w10 at*;clear g7 gf hw10 hZ10;go_wp2_with fail
     go_loopw [10,11] (fun v i wq=>∃(j3:Nat) (va6 vb6:Value),i= .int .i64 j3∧j3≤f.ret.length∧RnP bs bs wp va2 vb2 wq (Ex.rnSs (f.ret.take j3) L3).2 va6 vb6∧¬RS bs va6 vb6 wp.heap.size∧
      wq.heap[wp.heap.size]? =some (.cells (fuB xn' (.slice A5 f.params.length c5) (.slice A9 f.body.length c9) f.sec (.slice A3 f.ret.length c3)) 36 (0,0))∧
      RdRows (NewB (wp.heap.size+1) Z6 bs va6 vb6) wq 4 A5 0 (ps'.map Pa.d)∧RdRows (NewB (wp.heap.size+1) Z10 bs va6 vb6) wq 9 A9 0 (St.ds xb')∧Z10≤wq.heap.size∧
      OwnN Z10 bs 44 5 wq va6 vb6 v (Ex.ds (Ex.rnSs (f.ret.take j3) L3).1)) (fun _ i _=>f.ret.length-(intOf i).toNat)
     case atStart=>exact⟨0,va9,vb9,rfl,by omega,P10.out,Q10.out,B10.out,E10.out,D10.out,hz10,OwnN.nil _ _ _ _ _ _ _⟩
     case round=>
      obtain⟨j3,va6,vb6,rfl,hj3,hp7,hq7,hb7,he7,hd7,hZr,hown7⟩:=hrel;have hz7:wp.heap.size+1≤wr.heap.size:=by have:=blk_lt hb7;omega
      have g4:=(Zc hb7).1 4 _ rfl;obtain⟨A7,c7,rfl,hc7⟩:=hown7.slice;have hn7:(Ex.ds (Ex.rnSs (f.ret.take j3) L3).1).length=j3:=by rw[Ex.ds_length,rnSs_length,List.length_take];omega
      rw[hn7] at hc7 hown7 ⊢;have HN7:=Zh hn7;have HP7:=Zh hp7;have HB7:=Zh hb7;have HQ7:=Zh hq7;have HOW7:=Zh hown7;have HE7:=Zh he7;have HD7:=Zh hd7
      clear hn7 hp7 hb7 hq7 hown7 he7 hd7;by_cases hlt7:j3<f.ret.length
      ·obtain⟨b,o1,Aa,ca,rfl,hb,e0,e1,e2,e3,e4,p1,p2,p3⟩:=at_ex (R3.out.fr HP7.out.fr (fun q hq h=>by have:=HOK.out q hq;have:=(HLT2.out q h).1;omega) (fun _ h=>h)) j3 hlt7;have HTS7:=Zh (take_snoc f.ret j3 hlt7);have HLN7:=Zh (rnSs_len (f.ret.take j3) L3);have HLM7:=Zh (ex_take_sizes f.ret j3 hlt7);generalize f.ret[j3]=y at*;obtain⟨yk,yn,ys,yo,yl⟩:=y;have P3:=Zh p3;clear p3;simp only[Ex.kind,Ex.num,Ex.name,Ex.op,Ex.kids] at e0 e1 e2 e3 e4 p1 p2;go_wp2_with fail;refine(rexpr_any _ yk yn ys yo yl ok Aa ca wr bs bs (Ex.rnSs (f.ret.take j3) L3).2 va6 vb6 (Nat.le_refl _) P3.out p1 p2 (fun q hq=>by have:=HOK.out q hq;omega) HP7.out.at_ (by have:=HLN7.out;have:=HLM7.out;omega)).mono ?_;rintro e w8 ⟨A8,c8,va8,vb8,rfl,hp8,hc8,hr8⟩;obtain⟨y,hy⟩:∃y,y=(Ex.rnS (.mk yk yn ys yo yl) (Ex.rnSs (f.ret.take j3) L3).2).1:=⟨_,rfl⟩;obtain⟨L8,hL8⟩:∃L6,L6=(Ex.rnS (.mk yk yn ys yo yl) (Ex.rnSs (f.ret.take j3) L3).2).2:=⟨_,rfl⟩;have hsn:=rnSs_snoc (f.ret.take j3) (.mk yk yn ys yo yl) L3;rw[←HTS7.out,←hy,←hL8] at hsn;rw[rnS_eq] at hy hL8;simp only[Ex.kind,Ex.num,Ex.name,Ex.op,Ex.kids] at hy hL8;rw[←hL8] at hp8;obtain⟨y',hy'⟩:∃x',x'=(rnOf (Ex.rnSs (f.ret.take j3) L3).2 ys).1:=⟨_,rfl⟩;obtain⟨k',hk'⟩:∃k',k'=(Ex.rnSs yl (rnOf (Ex.rnSs (f.ret.take j3) L3).2 ys).2).1:=⟨_,rfl⟩;rw[←hy',←hk'] at hy;rw[←hy'];rw[←hk'] at hr8;have hkl:k'.length=yl.length:=by rw[hk',rnSs_length]
       obtain⟨⟨cs,hrow,hch⟩,hap⟩:=HOW7.out.go hp8;have hz8:=hp8.fr.size;rw[HN7.out] at hrow;have HCH:=Zh hch;have HAP:=Zh hap;have HROW:=Zh hrow
       have HSN:=Zh hsn;have HY:=Zh hy;have HR8:=Zh hr8;have HKL:=Zh hkl;have HP8:=Zh hp8
       have HE8:=Zh (HE7.out.goB hp8 (by omega));have HD8:=Zh (HD7.out.goB hp8 hZr);clear hy' hk' hL8 hsn hy hr8 hkl hp8 hch hap hrow;go_wp2_with (at_builtin;refine appW_ex rfl _ _ rfl Z10 (.slice A7 j3 c7) j3 cs rfl (row_fr HROW.out ((Zf w8).alloc _) (fun _ _=>non _)) ⟨w8.heap.size,0,none⟩ 1 rfl [vu8 yk,vu64 yn,.string y',vu8 yo,.slice A8 yl.length c8] rfl (new_cells _ _ _) (one_ex _ _ _ _ _ _ _) ?b1 ?b2 ?k)
       case b1=>have:=HES.out;omega
       case b2=>simp;omega
       case k=>
        intro g cap w11 hr11 hf11 hg11;obtain⟨W10,hW10⟩:∃W5,W5=w8.alloc (.cells #[vu8 yk,vu64 yn,.string y',vu8 yo,.slice A8 yl.length c8] 44):=⟨_,rfl⟩;have hf10:Fr Non w8 W10:=by rw[hW10];exact(Zf w8).alloc _
        have hf11':Fr (fun k=>(Value.slice A7 j3 c7).ownBlock=some k) W10 w11:=by rw[hW10];exact hf11
        have hg11':(Value.slice A7 j3 c7).ownBlock=some g∨W10.heap.size≤g:=by rw[hW10];simpa using hg11
        have hlast:∀q,(Value.slice A7 j3 c7).ownBlock=some q→Z10≤q∧q<wr.heap.size:=fun q hq=>by
         obtain⟨⟨_,h,_⟩,_⟩:=HOW7.out;exact h.lt q hq
        have hd:Chunks (fun q=>NewX Z10 bs va8 vb8 W10 q∧(Value.slice A7 j3 c7).ownBlock≠some q) W10 5 [y.d] [vu8 yk,vu64 yn,.string y',vu8 yo,.slice A8 yl.length c8]:=by
         have:=chunk_ex y (A:=A8) (c:=c8) (ok:=fun q=>NewX Z10 bs va8 vb8 W10 q∧(Value.slice A7 j3 c7).ownBlock≠some q) (w:=W10);rw[HY.out] at this ⊢;simp only[Ex.kind,Ex.num,Ex.name,Ex.op,Ex.kids] at this;rw[HKL.out] at this;exact this hc8 p2 (HR8.out.fr hf10 (fun _ _=>non _) fun q hq=>⟨⟨by have:=hq.1;omega,Nat.lt_of_lt_of_le hq.2.1 hf10.size,hq.2.2⟩,fun e=>by have:=(hlast q e).2;have:=hq.1;omega⟩)
        have how':=OwnN.snoc HAP.out HCH.out (by omega) HN7.out HP8.out.at_ hd hf10 hr11 hf11' hg11';have hp11:=(HP7.out.trans HP8.out).more (hf10.non.trans hf11') (fun q hq=>⟨by have:=(hlast q hq).1;omega,HAP.out q hq⟩);have hZ11:Z10≤w11.heap.size:=by have:=hf10.size;have:=hf11'.size;omega
        have hq11:=HP8.out.nrs (q:=wp.heap.size) (by omega) HQ7.out;have hb11:=Zb (Zb (Zb HB7.out HP8.out.fr HQ7.out) hf10 (non _)) hf11' (fun e=>by have:=(hlast _ e).1;omega);have he11:=(HE8.out.onB hf10 (fun k _ _=>non k)).onB hf11' (fun k h1 h2 e=>by have:=(hlast _ e).1;omega);have hd11:=(HD8.out.onB hf10 (fun k _ _=>non k)).onB hf11' (fun k h1 h2 e=>by have:=(hlast _ e).1;omega);have HOW11:=Zh how';have HP11:=Zh hp11;have HQ11:=Zh hq11;have HB11:=Zh hb11;have HE11:=Zh he11;have HD11:=Zh hd11
        clear how' hp11 hq11 hb11 he11 hd11 hd hf11 hr11 hg11 hf10 hf11' hg11' hlast hW10;go_wp2_with fail;go_roundw
        case rel=>exact⟨j3+1,va8,vb8,by go_num,by omega,by rw[HSN.out];exact HP11.out,HQ11.out,HB11.out,HE11.out,HD11.out,hZ11,by rw[HSN.out];show OwnN _ _ _ _ _ _ _ _ (Ex.ds (_++[y]));rw[ds_snoc];exact HOW11.out⟩
        case measure=>simp[intOf];omega
      ·obtain rfl:j3=f.ret.length:=by omega
       have htk7:f.ret.take f.ret.length=f.ret:=List.take_length;obtain⟨xr',hxr'⟩:∃x,x=(Ex.rnSs f.ret L3).1:=⟨_,rfl⟩;obtain⟨L4,hL4⟩:∃L4,L4=(Ex.rnSs f.ret L3).2:=⟨_,rfl⟩;have hrl:xr'.length=f.ret.length:=by rw[hxr',rnSs_length]
       have hp7:=HP7.out;rw[htk7,←hL4] at hp7;have hrw:=HOW7.out.rows;rw[htk7,←hxr'] at hrw;have hs7:Fr (fun q=>q=wp.heap.size) wr (wr.setCell ⟨wp.heap.size,4,none⟩ (.slice A7 f.ret.length c7)):=(Fr.refl (fun q=>q=wp.heap.size) wr).setCell _ _ (.inl rfl);have hp8:=hp7.more hs7 (fun q e=>by subst e;exact⟨Nat.le_refl _,HQ7.out⟩);have hb8:(wr.setCell ⟨wp.heap.size,4,none⟩ (.slice A7 f.ret.length c7)).heap[wp.heap.size]? =some (.cells (fuB xn' (.slice A5 f.params.length c5) (.slice A9 f.body.length c9) f.sec (.slice A7 f.ret.length c7)) 36 (0,0)):=blk_set HB7.out 4 _;have hr8:=hrw.toB hs7 (Z:=wr.heap.size) (B':=wp.heap.size+1) (fun k hk e=>by omega) (by omega) (Nat.le_refl _);have he8:=HE7.out.onB hs7 (fun k h1 h2 e=>by omega);have hd8:=HD7.out.onB hs7 (fun k h1 h2 e=>by omega);have gf:=(Zc HB7.out).2;have P12:=Zh hp8;have B12:=Zh hb8;have R12:=Zh hr8;have E12:=Zh he8;have D12:=Zh hd8;have XR:=Zh hxr';have XL4:=Zh hL4;have HRL:=Zh hrl
       have hz12:wr.heap.size≤(wr.setCell ⟨wp.heap.size,4,none⟩ (.slice A7 f.ret.length c7)).heap.size:=hs7.size;obtain⟨Z12,hZ12⟩:∃Z,Z=wr.heap.size:=⟨_,rfl⟩;rw[←hZ12] at R12 hz12;have hZ12':Z10≤Z12:=by omega
       clear hp7 hp8 hb8 hr8 he8 hd8 hrw hs7 hxr' hL4 hrl HOW7 HP7 HB7 HQ7 HN7 HE7 HD7;go_upto_region 23 with fail;generalize hw12:World.setCell wr _ _=w12 at*;clear g4 gf hw12 hZ12;have x0:=(Zc B12.out).1 0 _ rfl;have x1:=(Zc B12.out).1 1 _ rfl;have x2:=(Zc B12.out).1 2 _ rfl;have x3:=(Zc B12.out).1 3 _ rfl;have x4:=(Zc B12.out).1 4 _ rfl;obtain⟨y,hy⟩:∃y,y=(f.rnS (Fu.rnSs (P.take j) []).2).1:=⟨_,rfl⟩;obtain⟨Ly,hLy⟩:∃Ly,Ly=(f.rnS (Fu.rnSs (P.take j) []).2).2:=⟨_,rfl⟩;have hsn:=rnFuS_snoc (P.take j) f [];rw[←HTS.out,←hy,←hLy] at hsn;unfold Fu.rnS at hy hLy;simp only at hy hLy;rw[←HL0E.out,←XL1.out,←XL2.out,←XL3.out,←XL4.out] at hLy;rw[←HL0E.out,←XL1.out,←XL2.out,←XL3.out,←XN.out,←XP.out,←XB.out,←XR.out] at hy;subst hLy;obtain⟨⟨cs,hrow,hch⟩,hap⟩:=HOW.out.go P12.out;rw[HN.out] at hrow;have hzz:bo+1≤w12.heap.size:=by omega
       have hbv:=Zb HBV.out P12.out.fr HQO.out;have hqo:=P12.out.nrs hzr HQO.out;have v0:=(Zc hbv).1 0 _ rfl;have HCH:=Zh hch;have HAP:=Zh hap;have HROW:=Zh hrow;have HSN:=Zh hsn;have HY:=Zh hy;have HBV':=Zh hbv;have HQO':=Zh hqo
       have HP12:=Zh (HP.out.trans P12.out);clear hch hap hrow hsn hy hbv hqo;go_wp2_with (at_builtin;refine appW_fu rfl _ _ rfl (bo+1) (.slice A0 j c0) j cs rfl (row_fr HROW.out ((Zf w12).alloc _) (fun _ _=>non _)) ⟨w12.heap.size,0,none⟩ 1 rfl [.string xn',.slice A5 f.params.length c5,.slice A9 f.body.length c9,.bool f.sec,.slice A7 f.ret.length c7] rfl (new_cells _ _ _) (one_fu _ _ _ _ _ _ _ _ _ _ _) ?b1 ?b2 ?k)
       case b1=>have:=HLS.out;omega
       case b2=>simp;omega
       case k=>
        intro g cap w14 hr14 hf14 hg14;obtain⟨W13,hW13⟩:∃W5,W5=w12.alloc (.cells #[.string xn',.slice A5 f.params.length c5,.slice A9 f.body.length c9,.bool f.sec,.slice A7 f.ret.length c7] 36):=⟨_,rfl⟩;have hf13:Fr Non w12 W13:=by rw[hW13];exact(Zf w12).alloc _
        have hf14':Fr (fun k=>(Value.slice A0 j c0).ownBlock=some k) W13 w14:=by rw[hW13];exact hf14
        have hg14':(Value.slice A0 j c0).ownBlock=some g∨W13.heap.size≤g:=by rw[hW13];simpa using hg14
        have hlast:∀q,(Value.slice A0 j c0).ownBlock=some q→bo+1≤q∧q<wp.heap.size:=fun q hq=>by
         obtain⟨⟨_,h,_⟩,_⟩:=HOW.out;exact h.lt q hq
        have key:∀Z k,Z≤w12.heap.size→NewB (wp.heap.size+1) Z bs va6 vb6 k→NewX (bo+1) bs va6 vb6 W13 k∧(Value.slice A0 j c0).ownBlock≠some k:=fun Z k hZ hk=>
         ⟨⟨by have:=hk.1;omega,by have:=hk.2.1;have:=hf13.size;omega,hk.2.2⟩,fun e=>by have:=(hlast k e).2;have:=hk.1;omega⟩
        have hd:Chunks (fun q=>NewX (bo+1) bs va6 vb6 W13 q∧(Value.slice A0 j c0).ownBlock≠some q) W13 5 [y.d] [.string xn',.slice A5 f.params.length c5,.slice A9 f.body.length c9,.bool f.sec,.slice A7 f.ret.length c7]:=by
         have:=chunk_fu y (A1:=A5) (c1:=c5) (A2:=A9) (c2:=c9) (A3:=A7) (c3:=c7) (ok:=fun q=>NewX (bo+1) bs va6 vb6 W13 q∧(Value.slice A0 j c0).ownBlock≠some q) (w:=W13);rw[HY.out] at this ⊢;simp only at this;rw[HPL.out,HBL.out,HRL.out] at this;exact this hc5 q1 (E12.out.fr hf13 (fun _ _=>non _) fun q hq=>key Z6 q (by omega) hq) hc9 q2 (D12.out.fr hf13 (fun _ _=>non _) fun q hq=>key Z10 q (by omega) hq)
          hc7 q3 (R12.out.fr hf13 (fun _ _=>non _) fun q hq=>key Z12 q (by omega) hq)
        have how':=OwnN.snoc HAP.out HCH.out hzz HN.out P12.out.at_ hd hf13 hr14 hf14' hg14';have hbv14:=Zb (Zb HBV'.out hf13 (non _)) hf14' (fun e=>by have:=(hlast _ e).1;omega);have hs14:Fr (fun q=>q=bo) w14 (w14.setCell ⟨bo,0,none⟩ (.slice (some ⟨g,0,none⟩) (j+1) cap)):=(Fr.refl (fun q=>q=bo) w14).setCell _ _ (.inl rfl);have hp14:=(HP12.out.more (hf13.non.trans hf14') (fun q hq=>⟨by have:=(hlast q hq).1;omega,HAP.out q hq⟩)).more hs14 (fun q e=>by subst e;exact⟨by omega,HQO'.out⟩);have hbv15:=blk_set hbv14 0 (.slice (some ⟨g,0,none⟩) (j+1) cap);have HOW15:=Zh (how'.stay hs14 (fun k hk e=>by omega));have HP15:=Zh hp14;have HBV15:=Zh hbv15
        have vf:=(Zc hbv14).2;clear v0;have v0:=(Zc hbv14).1 0 _ rfl;clear how' hp14 key hd hf14 hr14 hg14 hf13 hf14' hg14' hlast hW13 x0 x1 x2 x3 x4 hs14 hbv14 hbv15;go_wp2_with fail;go_roundw
        case rel=>exact⟨j+1,va6,vb6,_,by go_num,by omega,by rw[HSN.out];exact HP15.out,HQO'.out,HBV15.out,by rw[HSN.out];show OwnN _ _ _ _ _ _ _ _ ((_++[y]).map Fu.d);rw[List.map_append];exact HOW15.out⟩
        case measure=>simp[intOf];omega
  ·obtain rfl:j=P.length:=by omega
   have htk:P.take P.length=P:=List.take_length;have v0:=(Zc HBV.out).1 0 _ rfl;have r0:=(Zc HFR.out).1 0 _ rfl;have rf:=(Zc HFR.out).2;go_wp2_with fail;refine bodyPost_ret (v:=.agg #[.slice A0 P.length c0]) ?_ rfl ?_
   ·simp[results,Tryz.results13,go_sem,r0]
   ·have hrows:=HOW.out.rows;have hp0:=HP.out;rw[htk] at hrows hp0;have hfz:Fr (fun k=>k=br) wr (wr.setCell ⟨br,0,none⟩ (.slice A0 P.length c0)):=(Fr.refl (fun k=>k=br) wr).setCell _ _ (.inl rfl);refine⟨A0,c0,rfl,?_,hc0,?_⟩
    ·refine(HFA.out.then hp0.fr ?_).then hfz ?_
     ·rintro k hk (h|h|h)
      ·omega
      ·cases h
      ·cases h
     ·intro k hk h;omega
    ·exact hrows.fr hfz (fun k hk e=>by have:=hk.1;omega) fun k hk=>⟨by have:=hk.1;omega,by simp;exact hk.2.1⟩
theorem scFun_eq (P:List Fu) (F:Nat) (nm:ByteArray) (ps:List Pa) (body:List St) (sec:Bool) (ret:List Ex) (n:Int):scFun P F ⟨nm,ps,body,sec,ret⟩ n=
 if(P.take F).any (fun g=>sq g.name nm)=true then .error (n,9) else match scParams ps ⟨[],[],n⟩ with
 | .error x=>.error x
 | .ok a=>match scStmts P F body a [] with
   | .error x=>.error x
   | .ok (a1,_)=>if Ex.askss (inM a1.kn) ret then .ok (a1.n+1+1) else .error (a1.n+1,3):=rfl
def Fu.more (f:Fu) (m:List St):Fu:=⟨f.name,f.params,f.body++m,false,[]⟩
theorem nm_word (n:Nat):wordM (nmB n)=false:=by
 simp[wordM,inM,wordsM,sq,nmB]
theorem nm_part (m:Nat) (h:m<26):partM (UInt8.ofNat (97+m))=true:=by
 have:(UInt8.ofNat (97+m)).toNat=97+m:=by rw[UInt8.toNat_ofNat'];omega
 simp only[partM,letterM,this,Bool.or_eq_true,Bool.and_eq_true,decide_eq_true_eq];exact .inl (.inl ⟨by omega,by omega⟩)
theorem nm_emp (n:Nat):emp (nmB n)=false:=rfl
theorem nm_named (n:Nat):namedM (nmB n)=true:=by
 have h1:=nm_part _ (Nat.mod_lt n (by decide:0<26));have h2:=nm_part _ (Nat.mod_lt (n / 26) (by decide:0<26));have h3:=nm_part _ (Nat.mod_lt (n / 676) (by decide:0<26));have h0:partM 114=true:=by decide
 unfold namedM;rw[nm_emp,nm_word];simp only[nmB,List.all_cons,List.all_nil,h0,h1,h2,h3];rfl
theorem ofNat_inj {a b:Nat} (ha:a<26) (hb:b<26) (h:UInt8.ofNat (97+a)=UInt8.ofNat (97+b)):a=b:=by
 have:=congrArg UInt8.toNat h;rw[UInt8.toNat_ofNat',UInt8.toNat_ofNat'] at this;omega
theorem nm_inj {m n:Nat} (hm:m<17576) (hn:n<17576) (h:nmB m=nmB n):m=n:=by
 simp only[nmB,ByteArray.mk.injEq] at h;have h':=congrArg Array.toList h;simp only[List.cons.injEq,and_true,true_and] at h';have a:=ofNat_inj (Nat.mod_lt m (by decide)) (Nat.mod_lt n (by decide)) h'.1;have b:=ofNat_inj (Nat.mod_lt (m / 26) (by decide)) (Nat.mod_lt (n / 26) (by decide)) h'.2.1;have c:=ofNat_inj (Nat.mod_lt (m / 676) (by decide)) (Nat.mod_lt (n / 676) (by decide)) h'.2.2;omega
structure Wf (L:List ByteArray):Prop where
 nodup:L.Nodup
 ne:∀x∈L,emp x=false
theorem Wf.nil:Wf []:=⟨List.nodup_nil,fun x h=>by cases h⟩
def rho (L:List ByteArray) (s:ByteArray):ByteArray:=nmB (ixN L s)
theorem ix_lt {L:List ByteArray} {s:ByteArray} (h:s∈L):ixN L s<L.length:=List.findIdx_lt_length_of_exists ⟨s,h,sq_refl s⟩
theorem ix_get {L:List ByteArray} {s:ByteArray} (h:s∈L):L[ixN L s]'(ix_lt h)=s:=by
 have:=List.findIdx_getElem (xs:=L) (p:=fun x=>sq x s) (w:=ix_lt h);exact sq_iff.1 this
theorem ix_inj {L:List ByteArray} {s t:ByteArray} (hs:s∈L) (ht:t∈L) (h:ixN L s=ixN L t):s=t:=by
 rw[←ix_get hs,←ix_get ht];simp only[h]
theorem rho_inj {L:List ByteArray} (hl:L.length≤17576) {s t:ByteArray} (hs:s∈L) (ht:t∈L) (h:rho L s=rho L t):s=t:=
 ix_inj hs ht (nm_inj (by have:=ix_lt hs;omega) (by have:=ix_lt ht;omega) h)
theorem ix_append {L M:List ByteArray} {s:ByteArray} (hs:s∈L):ixN (L++M) s=ixN L s:=by
 unfold ixN;rw[List.findIdx_append,if_pos];exact ix_lt hs
theorem rho_append {L M:List ByteArray} {s:ByteArray} (hs:s∈L):rho (L++M) s=rho L s:=by rw[rho,ix_append hs,rho]
theorem rnOf_in {L:List ByteArray} {s:ByteArray} (h:s∈L):rnOf L s=(rho L s,L):=by rw[rnOf,if_pos (inM_iff.2 h)];rfl
theorem rnOf_emp {L:List ByteArray} (hL:Wf L) {s:ByteArray} (h:emp s=true):rnOf L s=(s,L):=by
 rw[rnOf,if_neg (fun hi=>by have:=hL.ne s (inM_iff.1 hi);rw[h] at this;cases this),if_pos h]
theorem rnOf_new {L:List ByteArray} {s:ByteArray} (h:s∉L) (he:emp s=false):rnOf L s=(nmB L.length,L++[s]):=by
 rw[rnOf,if_neg (fun hi=>h (inM_iff.1 hi)),if_neg (by simp[he])]
theorem rnOf_cases {L:List ByteArray} (hL:Wf L) (s:ByteArray):(s∈L∧rnOf L s=(rho L s,L))∨(emp s=true∧rnOf L s=(s,L))∨(s∉L∧emp s=false∧rnOf L s=(nmB L.length,L++[s])):=by
 by_cases h:s∈L
 ·exact .inl ⟨h,rnOf_in h⟩
 ·cases he:emp s
  ·exact .inr (.inr ⟨h,rfl,rnOf_new h he⟩)
  ·exact .inr (.inl ⟨rfl,rnOf_emp hL he⟩)
theorem rnOf_wf {L:List ByteArray} (hL:Wf L) (s:ByteArray):Wf (rnOf L s).2:=by
 rcases rnOf_cases hL s with⟨_,h⟩|⟨_,h⟩|⟨h1,h2,h⟩<;>rw[h]
 ·exact hL
 ·exact hL
 ·refine⟨?_,fun x hx=>?_⟩
  ·rw[List.nodup_append];exact⟨hL.nodup,by simp,fun a ha b hb=>by rw[List.mem_singleton.1 hb];exact fun e=>h1 (e▸ha)⟩
  ·rcases List.mem_append.1 hx with hx|hx
   ·exact hL.ne x hx
   ·rw[List.mem_singleton.1 hx];exact h2
def Pre (L L':List ByteArray):Prop:=∃M,L'=L++M
theorem Pre.refl (L:List ByteArray):Pre L L:=⟨[],by simp⟩
theorem Pre.trans {L M N:List ByteArray} (h:Pre L M) (k:Pre M N):Pre L N:=by
 obtain⟨a,rfl⟩:=h;obtain⟨b,rfl⟩:=k;exact⟨a++b,by simp⟩
theorem Pre.mem {L M:List ByteArray} (h:Pre L M) {x:ByteArray} (hx:x∈L):x∈M:=by obtain⟨a,rfl⟩:=h;simp[hx]
theorem Pre.rho {L M:List ByteArray} (h:Pre L M) {x:ByteArray} (hx:x∈L):rho M x=rho L x:=by obtain⟨a,rfl⟩:=h;exact rho_append hx
theorem rnOf_pre {L:List ByteArray} (s:ByteArray):Pre L (rnOf L s).2:=by
 unfold rnOf;split
 ·exact Pre.refl _
 ·split
  ·exact Pre.refl _
  ·exact⟨[s],rfl⟩
theorem rnOf_mem {L:List ByteArray} (s:ByteArray) (he:emp s=false):s∈(rnOf L s).2∧(rnOf L s).1=rho (rnOf L s).2 s:=by
 by_cases h:s∈L
 ·rw[rnOf_in h];exact⟨h,rfl⟩
 ·rw[rnOf_new h he];refine⟨by simp,?_⟩;show nmB L.length=nmB _
  congr 1;unfold ixN;rw[List.findIdx_append,if_neg]
  ·simp[sq_refl,List.findIdx_cons]
  ·intro hlt;have:=List.findIdx_getElem (xs:=L) (p:=fun x=>sq x s) (w:=hlt);exact h (sq_iff.1 this▸List.getElem_mem hlt)
theorem rnOf_e {L:List ByteArray} (hL:Wf L) (s:ByteArray):emp (rnOf L s).1=emp s:=by
 rcases rnOf_cases hL s with⟨h1,h⟩|⟨h1,h⟩|⟨h1,h2,h⟩<;>rw[h]
 ·rw[hL.ne s h1];rfl
 ·rw[h2];rfl
theorem rnOf_n {L:List ByteArray} (hL:Wf L) (s:ByteArray) (hs:namedM s=true):namedM (rnOf L s).1=true:=by
 rcases rnOf_cases hL s with⟨h1,h⟩|⟨h1,h⟩|⟨h1,h2,h⟩<;>rw[h]
 ·exact nm_named _
 ·exact hs
 ·exact nm_named _
theorem rnOf_x {L:List ByteArray} (hL:Wf L) (s:ByteArray) (b:Bool) (hs:namedX s b=true):namedX (rnOf L s).1 b=true:=by
 unfold namedX at*;cases b
 ·simp only[Bool.false_eq_true,if_false] at*;rw[rnOf_e hL];exact hs
 ·simp only[if_true] at*;exact rnOf_n hL s hs
mutual
theorem rnE_wf:∀(e:Ex) (L:List ByteArray),Wf L→Wf (e.rnS L).2∧Pre L (e.rnS L).2
 | .mk k n s o l,L,h=>by
   rw[Ex.rnS];have h1:=rnOf_wf h s;have h2:=rnEs_wf l _ h1;exact⟨h2.1,(rnOf_pre s).trans h2.2⟩
theorem rnEs_wf:∀(l:List Ex) (L:List ByteArray),Wf L→Wf (Ex.rnSs l L).2∧Pre L (Ex.rnSs l L).2
 |[],L,h=>by rw[Ex.rnSs];exact⟨h,Pre.refl _⟩
 |e::l,L,h=>by
  rw[Ex.rnSs];have h1:=rnE_wf e L h;have h2:=rnEs_wf l _ h1.1;exact⟨h2.1,h1.2.trans h2.2⟩
end
theorem rnL_wf:∀(l:List ByteArray) (L:List ByteArray),Wf L→Wf (rnL l L).2∧Pre L (rnL l L).2
 |[],L,h=>by rw[rnL];exact⟨h,Pre.refl _⟩
 |e::l,L,h=>by
  rw[rnL];have h2:=rnL_wf l _ (rnOf_wf h e);exact⟨h2.1,(rnOf_pre e).trans h2.2⟩
mutual
theorem rnSt_wf:∀(s:St) (L:List ByteArray),Wf L→Wf (s.rnS L).2∧Pre L (s.rnS L).2
 | .mk k nm fr se mt ex args body els,L,h=>by
   rw[St.rnS];have h1:=rnOf_wf h nm;have h2:=rnOf_wf h1 fr;have h3:=rnEs_wf ex _ h2;have h4:=rnL_wf args _ h3.1;have h5:=rnSts_wf body _ h4.1;have h6:=rnSts_wf els _ h5.1;exact⟨h6.1,(rnOf_pre nm).trans ((rnOf_pre fr).trans (h3.2.trans (h4.2.trans (h5.2.trans h6.2))))⟩
theorem rnSts_wf:∀(l:List St) (L:List ByteArray),Wf L→Wf (St.rnSs l L).2∧Pre L (St.rnSs l L).2
 |[],L,h=>by rw[St.rnSs];exact⟨h,Pre.refl _⟩
 |e::l,L,h=>by
  rw[St.rnSs];have h1:=rnSt_wf e L h;have h2:=rnSts_wf l _ h1.1;exact⟨h2.1,h1.2.trans h2.2⟩
end
theorem rnPa_wf:∀(l:List Pa) (L:List ByteArray),Wf L→Wf (Pa.rnSs l L).2∧Pre L (Pa.rnSs l L).2
 |[],L,h=>by rw[Pa.rnSs];exact⟨h,Pre.refl _⟩
 |e::l,L,h=>by
  rw[Pa.rnSs];have h2:=rnPa_wf l _ (rnOf_wf h e.name);exact⟨h2.1,(rnOf_pre e.name).trans h2.2⟩
theorem rnFu_wf (f:Fu) (L:List ByteArray) (h:Wf L):Wf (f.rnS L).2∧Pre L (f.rnS L).2:=by
 unfold Fu.rnS;have h1:=rnOf_wf h f.name;have h2:=rnPa_wf f.params _ h1;have h3:=rnSts_wf f.body _ h2.1;have h4:=rnEs_wf f.ret _ h3.1;exact⟨h4.1,(rnOf_pre _).trans (h2.2.trans (h3.2.trans h4.2))⟩
theorem rnFus_wf:∀(l:List Fu) (L:List ByteArray),Wf L→Wf (Fu.rnSs l L).2∧Pre L (Fu.rnSs l L).2
 |[],L,h=>by rw[Fu.rnSs];exact⟨h,Pre.refl _⟩
 |e::l,L,h=>by
  rw[Fu.rnSs];have h1:=rnFu_wf e L h;have h2:=rnFus_wf l _ h1.1;exact⟨h2.1,h1.2.trans h2.2⟩
theorem shape_mk (k:UInt8) (n:UInt64) (s:ByteArray) (o:UInt8) (l:List Ex):shapeM (.mk k n s o l)=(if k.toNat=1 then emp s&&o.toNat==0&&l.length==0
 else if k.toNat=2∨k.toNat=4 then n.toNat==0&&namedM s&&o.toNat==0&&l.length==0
 else if k.toNat=3 then n.toNat==0&&emp s&& !emp (signM o)&&l.length==2
 else if k.toNat=5 then n.toNat==0&&namedM s&&o.toNat==0&&l.length==1
 else false):=rfl
theorem shape_rn {k:UInt8} {n:UInt64} {s s':ByteArray} {o:UInt8} {l l':List Ex} (h:shapeM (.mk k n s o l)=true) (he:emp s'=emp s) (hn:namedM s=true→namedM s'=true) (hl:l'.length=l.length):shapeM (.mk k n s' o l')=true:=by
 rw[shape_mk] at h ⊢;rw[he,hl];by_cases h1:k.toNat=1
 ·rw[if_pos h1] at h ⊢;exact h
 ·rw[if_neg h1] at h ⊢;by_cases h2:k.toNat=2∨k.toNat=4
  ·rw[if_pos h2] at h ⊢;simp only[Bool.and_eq_true] at*;exact⟨⟨⟨h.1.1.1,hn h.1.1.2⟩,h.1.2⟩,h.2⟩
  ·rw[if_neg h2] at h ⊢;by_cases h3:k.toNat=3
   ·rw[if_pos h3] at h ⊢;exact h
   ·rw[if_neg h3] at h ⊢;by_cases h5:k.toNat=5
    ·rw[if_pos h5] at h ⊢;simp only[Bool.and_eq_true] at*;exact⟨⟨⟨h.1.1.1,hn h.1.1.2⟩,h.1.2⟩,h.2⟩
    ·rw[if_neg h5] at h;cases h
mutual
theorem may_rn:∀(e:Ex) (L:List ByteArray) (d:Nat),Wf L→Ex.may e d=true→Ex.may (e.rnS L).1 d=true
 | .mk k n s o l,L,d,hL,h=>by
   rw[Ex.rnS];simp only[Ex.may,Bool.and_eq_true] at*;exact⟨⟨h.1.1,shape_rn h.1.2 (rnOf_e hL s) (rnOf_n hL s) (rnSs_length _ _)⟩,mays_rn l _ _ (rnOf_wf hL s) h.2⟩
theorem mays_rn:∀(l:List Ex) (L:List ByteArray) (d:Nat),Wf L→Ex.mays l d=true→Ex.mays (Ex.rnSs l L).1 d=true
 |[],L,d,hL,h=>by rw[Ex.rnSs];rfl
 |e::l,L,d,hL,h=>by
  rw[Ex.rnSs];simp only[Ex.mays,Bool.and_eq_true] at*;exact⟨may_rn e L d hL h.1,mays_rn l _ d (rnE_wf e L hL).1 h.2⟩
end
theorem exs_rn (l:List Ex) (L:List ByteArray) (hL:Wf L) (h:l.all exM=true):(Ex.rnSs l L).1.all exM=true:=by
 have e:∀l:List Ex,l.all exM=Ex.mays l 1:=fun l=>(mays_all l 1).symm;rw[e] at*;exact mays_rn l L 1 hL h
theorem named_rnL:∀(l L:List ByteArray),Wf L→l.all namedM=true→(rnL l L).1.all namedM=true
 |[],L,_,_=>by rw[rnL];rfl
 |s::l,L,hL,h=>by
  rw[rnL];simp only[List.all_cons,Bool.and_eq_true] at*;exact⟨rnOf_n hL s h.1,named_rnL l _ (rnOf_wf hL s) h.2⟩
theorem form_rn (k:UInt8) (nm fr:ByteArray) (sec mt:Bool) (ex:List Ex) (args:List ByteArray) (body els:List St) (L:List ByteArray) (body' els':List St) (hL:Wf L) (hb:body'.length=body.length) (hel:els'.length=els.length)
  (h:formM (.mk k nm fr sec mt ex args body els)=true):
  formM (.mk k (rnOf L nm).1 (rnOf (rnOf L nm).2 fr).1 sec mt (Ex.rnSs ex (rnOf (rnOf L nm).2 fr).2).1 (rnL args (Ex.rnSs ex (rnOf (rnOf L nm).2 fr).2).2).1 body' els')=true:=by
 have h1:=rnOf_wf hL nm;have h2:=rnOf_wf h1 fr;have h3:=(rnEs_wf ex _ h2).1;rw[form_mk,Bool.and_eq_true] at*;obtain⟨hh,hr⟩:=h;refine⟨?_,?_⟩
 ·unfold headM at*;rw[hb,hel];simp only[Bool.and_eq_true] at*;exact⟨hh.1,rnOf_x h1 fr _ hh.2⟩
 ·split at hr
  ·rename_i h11;rw[if_pos h11];unfold callM at*;rw[rnSs_length,rnL_length,rnOf_e hL];simp only[Bool.and_eq_true,Bool.or_eq_true] at*;exact⟨⟨⟨⟨hr.1.1.1.1.imp id (rnOf_n hL nm),exs_rn ex _ h2 hr.1.1.1.2⟩,hr.1.1.2⟩,named_rnL args _ h3 hr.1.2⟩,hr.2⟩
  ·rename_i h11;rw[if_neg h11];unfold restM at*;rw[rnSs_length,rnL_length];simp only[Bool.and_eq_true] at*;exact⟨⟨rnOf_x hL nm _ hr.1.1,hr.1.2⟩,exs_rn ex _ h2 hr.2.1,hr.2.2⟩
mutual
theorem ok_rn:∀(s:St) (L:List ByteArray) (d:Nat),Wf L→St.ok s d=true→St.ok (s.rnS L).1 d=true
 | .mk k nm fr se mt ex args body els,L,d,hL,h=>by
   rw[St.rnS];simp only[St.ok,Bool.and_eq_true] at*;have h2:=rnOf_wf (rnOf_wf hL nm) fr;have h4:=(rnL_wf args _ (rnEs_wf ex _ h2).1).1;exact⟨⟨⟨h.1.1.1,form_rn k nm fr se mt ex args body els L _ _ hL (rnStS_length _ _) (rnStS_length _ _) h.1.1.2⟩,oks_rn body _ _ h4 h.1.2⟩,oks_rn els _ _ (rnSts_wf body _ h4).1 h.2⟩
theorem oks_rn:∀(l:List St) (L:List ByteArray) (d:Nat),Wf L→St.oks l d=true→St.oks (St.rnSs l L).1 d=true
 |[],L,d,_,_=>by rw[St.rnSs];rfl
 |s::l,L,d,hL,h=>by
  rw[St.rnSs];simp only[St.oks,Bool.and_eq_true] at*;exact⟨ok_rn s L d hL h.1,oks_rn l _ d (rnSt_wf s L hL).1 h.2⟩
end
mutual
theorem size_rn:∀(s:St) (L:List ByteArray),(s.rnS L).1.size=s.size
 | .mk k nm fr se mt ex args body els,L=>by rw[St.rnS];simp only[St.size,sizes_rn body,sizes_rn els]
theorem sizes_rn:∀(l:List St) (L:List ByteArray),St.sizes (St.rnSs l L).1=St.sizes l
 |[],L=>by rw[St.rnSs]
 |s::l,L=>by rw[St.rnSs];simp only[St.sizes,size_rn s,sizes_rn l]
end
theorem pars_rn:∀(l:List Pa) (L:List ByteArray),Wf L→l.all parM=true→(Pa.rnSs l L).1.all parM=true
 |[],L,_,_=>by rw[Pa.rnSs];rfl
 |x::l,L,hL,h=>by
  rw[Pa.rnSs];simp only[List.all_cons,Bool.and_eq_true,parM] at*;exact⟨⟨rnOf_n hL x.name h.1.1,h.1.2⟩,pars_rn l _ (rnOf_wf hL x.name) h.2⟩
theorem okF_rn (f:Fu) (L:List ByteArray) (hL:Wf L) (h:okF f=true):okF (f.rnS L).1=true:=by
 unfold Fu.rnS okF funM fheadM at*;have h1:=rnOf_wf hL f.name;have h2:=rnPa_wf f.params _ h1;have h3:=rnSts_wf f.body _ h2.1;simp only[rnSs_length,rnPa_length];simp only[Bool.and_eq_true] at*;obtain⟨g1,⟨⟨⟨⟨g2,g3⟩,g4⟩,g5⟩,g6⟩,g7⟩:=h;exact⟨oks_rn _ _ _ h2.1 g1,⟨⟨⟨⟨rnOf_n hL _ g2,g3⟩,g4⟩,exs_rn _ _ h3.1 g5⟩,g6⟩,pars_rn _ _ h1 g7⟩
theorem okFs_rn:∀(l:List Fu) (L:List ByteArray),Wf L→l.all okF=true→(Fu.rnSs l L).1.all okF=true
 |[],L,_,_=>by rw[Fu.rnSs];rfl
 |x::l,L,hL,h=>by
  rw[Fu.rnSs];simp only[List.all_cons,Bool.and_eq_true] at*;exact⟨okF_rn x L hL h.1,okFs_rn l _ (rnFu_wf x L hL).1 h.2⟩
theorem fsizes_rn:∀(l:List Fu) (L:List ByteArray),Fu.sizes (Fu.rnSs l L).1=Fu.sizes l
 |[],L=>by rw[Fu.rnSs]
 |x::l,L=>by rw[Fu.rnSs];simp only[Fu.sizes,Fu.size,fsizes_rn l];rw[Fu.rnS];simp only[sizes_rn]
theorem mayM_rn (P:List Fu) (h:mayM P=true):mayM (renP P)=true:=by
 unfold mayM renP at*;rw[rnFuS_length,fsizes_rn];simp only[Bool.and_eq_true] at*;exact⟨okFs_rn P [] Wf.nil h.1,h.2⟩
structure Rel (L:List ByteArray) (a b:Sc):Prop where
 n:b.n=a.n
 kn:b.kn=a.kn.map (rho L)
 gi:b.gi=a.gi.map (rho L)
 k:∀x∈a.kn,x∈L
 g:∀x∈a.gi,x∈L
theorem map_pre {L M:List ByteArray} (h:Pre L M) {l:List ByteArray} (hl:∀x∈l,x∈L):l.map (rho M)=l.map (rho L):=List.map_congr_left fun x hx=>h.rho (hl x hx)
theorem Rel.pre {L M:List ByteArray} {a b:Sc} (h:Rel L a b) (hp:Pre L M):Rel M a b:=
 ⟨h.n,by rw[map_pre hp h.k];exact h.kn,by rw[map_pre hp h.g];exact h.gi,fun x hx=>hp.mem (h.k x hx),fun x hx=>hp.mem (h.g x hx)⟩
theorem Rel.next {L:List ByteArray} {a b:Sc} (h:Rel L a b):Rel L ⟨a.kn,a.gi,a.n+1⟩ ⟨b.kn,b.gi,b.n+1⟩:=⟨by simp[h.n],h.kn,h.gi,h.k,h.g⟩
theorem inM_rho {L:List ByteArray} (hl:L.length≤17576) {l:List ByteArray} (hs:∀x∈l,x∈L) {s:ByteArray} (h:s∈L):inM (l.map (rho L)) (rho L s)=inM l s:=by
 rw[Bool.eq_iff_iff,inM_iff,inM_iff,List.mem_map];constructor
 ·rintro⟨x,hx,e⟩;rw[←rho_inj hl (hs x hx) h e];exact hx
 ·exact fun h=>⟨s,h,rfl⟩
theorem ask_rn {L:List ByteArray} (hL:Wf L) (hl:L.length<17576) {l:List ByteArray} (hs:∀x∈l,x∈L) (s:ByteArray):inM (l.map (rho L)) (rnOf L s).1=inM l s:=by
 rcases rnOf_cases hL s with⟨h1,h⟩|⟨h1,h⟩|⟨h1,h2,h⟩<;>rw[h]
 ·exact inM_rho (by omega) hs h1
 ·rw[Bool.eq_iff_iff,inM_iff,inM_iff,List.mem_map];constructor
  ·rintro⟨x,hx,e⟩;have:emp (rho L x)=true:=by rw[e];exact h1
   cases this
  ·intro hx;have:=hL.ne s (hs s hx);rw[h1] at this;cases this
 ·rw[Bool.eq_iff_iff,inM_iff,inM_iff,List.mem_map];constructor
  ·rintro⟨x,hx,e⟩;have:=nm_inj (by have:=ix_lt (hs x hx);omega) hl (show nmB (ixN L x)=nmB L.length from e);have:=ix_lt (hs x hx);omega
  ·intro hx;exact absurd (hs s hx) h1
theorem known_in {L:List ByteArray} (hL:Wf L) {l:List ByteArray} (hs:∀x∈l,x∈L) {s:ByteArray} (h:(emp s||inM l s)=true):(rnOf L s).2=L:=by
 rcases Bool.or_eq_true _ _▸h with h|h
 ·rw[rnOf_emp hL h]
 ·rw[rnOf_in (hs s (inM_iff.1 h))]
mutual
theorem asks_rn {L:List ByteArray} (hL:Wf L) (hl:L.length<17576) {l:List ByteArray} (hs:∀x∈l,x∈L):∀(e:Ex),Ex.asks (inM (l.map (rho L))) (e.rnS L).1=Ex.asks (inM l) e∧(Ex.asks (inM l) e=true→(e.rnS L).2=L)
 | .mk k n s o q=>by
   rw[Ex.rnS,Ex.asks,Ex.asks,rnOf_e hL,ask_rn hL hl hs];cases h:emp s||inM l s
   ·simp
   ·rw[known_in hL hs h];have h2:=askss_rn hL hl hs q;simpa using h2
theorem askss_rn {L:List ByteArray} (hL:Wf L) (hl:L.length<17576) {l:List ByteArray} (hs:∀x∈l,x∈L):∀(q:List Ex),Ex.askss (inM (l.map (rho L))) (Ex.rnSs q L).1=Ex.askss (inM l) q∧(Ex.askss (inM l) q=true→(Ex.rnSs q L).2=L)
 |[]=>by rw[Ex.rnSs];exact⟨rfl,fun _=>rfl⟩
 |e::q=>by
  rw[Ex.rnSs,Ex.askss,Ex.askss];have h1:=asks_rn hL hl hs e;rw[h1.1];cases h:Ex.asks (inM l) e
  ·simp
  ·rw[h1.2 h];have h2:=askss_rn hL hl hs q;simpa using h2
end
theorem all_rn {L:List ByteArray} (hL:Wf L) (hl:L.length<17576) {l:List ByteArray} (hs:∀x∈l,x∈L):∀(q:List ByteArray),(rnL q L).1.all (inM (l.map (rho L)))=q.all (inM l)∧(q.all (inM l)=true→(rnL q L).2=L)
 |[]=>by rw[rnL];exact⟨rfl,fun _=>rfl⟩
 |e::q=>by
  rw[rnL,List.all_cons,List.all_cons,ask_rn hL hl hs];cases h:inM l e
  ·simp
  ·rw[known_in hL hs (by rw[h];simp)];have h2:=all_rn hL hl hs q;simpa using h2
structure FunR (L:List ByteArray) (P P':List Fu) (F:Nat):Prop where
 map:(P'.take F).map Fu.name=((P.take F).map Fu.name).map (rho L)
 mem:∀x∈(P.take F).map Fu.name,x∈L
theorem FunR.pre {L M:List ByteArray} {P P':List Fu} {F:Nat} (h:FunR L P P' F) (hp:Pre L M):FunR M P P' F:=⟨by rw[map_pre hp h.mem];exact h.map,fun x hx=>hp.mem (h.mem x hx)⟩
theorem any_names (P:List Fu) (F:Nat) (s:ByteArray):(P.take F).any (fun f=>sq f.name s)=inM ((P.take F).map Fu.name) s:=by rw[inM,List.any_map];rfl
theorem FunR.any {L:List ByteArray} {P P':List Fu} {F:Nat} (h:FunR L P P' F) (hL:Wf L) (hl:L.length<17576) (s:ByteArray):(P'.take F).any (fun f=>sq f.name (rnOf L s).1)=(P.take F).any fun f=>sq f.name s:=by
 rw[any_names,any_names,h.map];exact ask_rn hL hl h.mem s
theorem addN_rho {L:List ByteArray} (hl:L.length≤17576) {l:List ByteArray} (hs:∀x∈l,x∈L) {s:ByteArray} (h:s∈L):addN (l.map (rho L)) (rho L s)=(addN l s).map (rho L):=by
 unfold addN;rw[inM_rho hl hs h];split
 ·rfl
 ·simp
theorem addN_sub {L l:List ByteArray} (hs:∀x∈l,x∈L) {s:ByteArray} (h:s∈L):∀x∈addN l s,x∈L:=by
 intro x hx;unfold addN at hx;split at hx
 ·exact hs x hx
 ·rcases List.mem_append.1 hx with hx|hx
  ·exact hs x hx
  ·rw[List.mem_singleton.1 hx];exact h
theorem delN_rho {L:List ByteArray} (hl:L.length≤17576):∀{l:List ByteArray},(∀x∈l,x∈L)→∀{s:ByteArray},s∈L→delN (l.map (rho L)) (rho L s)=(delN l s).map (rho L)
 |[],_,_,_=>rfl
 |x::l,hs,s,h=>by
  have ih:=delN_rho hl (l:=l) (fun y hy=>hs y (by simp[hy])) h;have e:sq (rho L x) (rho L s)=sq x s:=by
   rw[Bool.eq_iff_iff,sq_iff,sq_iff];exact⟨fun e=>rho_inj hl (hs x (by simp)) h e,fun e=>by rw[e]⟩
  unfold delN at*;rw[List.map_cons,List.filter_cons,List.filter_cons,e];split
  ·rw[ih];rfl
  ·exact ih
theorem delN_sub {L l:List ByteArray} (hs:∀x∈l,x∈L) (s:ByteArray):∀x∈delN l s,x∈L:=fun x hx=>hs x (List.mem_filter.1 hx).1
theorem Rel.del {L:List ByteArray} {a b:Sc} (h:Rel L a b) (hl:L.length≤17576) {s:ByteArray} (hs:s∈L):Rel L (a.del s) (b.del (rho L s)):=
 ⟨h.n,by simp only[Sc.del,h.kn];exact delN_rho hl h.k hs,h.gi,delN_sub h.k s,h.g⟩
theorem Rel.dels {L:List ByteArray} (hl:L.length≤17576):∀{aw:List ByteArray} {a b:Sc},Rel L a b→(∀x∈aw,x∈L)→Rel L (a.dels aw) (b.dels (aw.map (rho L)))
 |[],_,_,h,_=>h
 |x::aw,a,b,h,hx=>Rel.dels (aw:=aw) (a:=a.del x) (b:=b.del (rho L x)) hl (h.del hl (hx x (by simp))) fun y hy=>hx y (by simp[hy])
theorem Rel.give {L:List ByteArray} {a b:Sc} (h:Rel L a b) (hl:L.length≤17576) {s:ByteArray} (hs:s∈L):
  (∃x,a.give s= .error x∧b.give (rho L s)= .error x)∨∃a1 b1,a.give s= .ok a1∧b.give (rho L s)= .ok b1∧Rel L a1 b1:=by
 unfold Sc.give;rw[h.gi,inM_rho hl h.g hs,h.n];cases inM a.gi s
 ·exact .inr ⟨_,_,rfl,rfl,h.n▸⟨rfl,by simp only[h.kn];exact addN_rho hl h.k hs,addN_rho hl h.g hs,addN_sub h.k hs,addN_sub h.g hs⟩⟩
 ·exact .inl ⟨_,rfl,rfl⟩
theorem Rel.gives {L:List ByteArray} {a b:Sc} (h:Rel L a b) (hl:L.length≤17576) (k:UInt8) {s s':ByteArray} (he:emp s'=emp s) (hs:emp s=false→s∈L∧s'=rho L s):
  (∃x,a.gives k s= .error x∧b.gives k s'= .error x)∨∃a1 b1 aw,a.gives k s= .ok (a1,aw)∧b.gives k s'= .ok (b1,aw.map (rho L))∧Rel L a1 b1∧∀x∈aw,x∈L:=by
 unfold Sc.gives;rw[he];cases hc:(k.toNat==2||k.toNat==4||emp s)
 ·simp only[Bool.or_eq_false_iff] at hc;obtain⟨hm,rfl⟩:=hs hc.2;rcases h.give hl hm with⟨x,e1,e2⟩|⟨a1,b1,e1,e2,h1⟩
  ·exact .inl ⟨x,by simp[e1],by simp[e2]⟩
  ·exact .inr ⟨a1,b1,[s],by simp[e1],by simp[e2],h1,fun x hx=>by rw[List.mem_singleton.1 hx];exact hm⟩
 ·exact .inr ⟨a,b,[],by simp,by simp,h,fun x hx=>by cases hx⟩
def OutR (M:List ByteArray) (N:Nat) (r r':Except (Int×Int) (Sc×List ByteArray)):Prop:=match r,r' with
 | .error x,.error y=>x=y
 | .ok (a,aw),.ok (b,bw)=>Rel M a b∧bw=aw.map (rho M)∧(∀x∈aw,x∈M)∧M.length≤N
 |_,_=>False
theorem head_rn {L:List ByteArray} {P P':List Fu} {F:Nat} (hL:Wf L) (hl:L.length+2<17576) (hF:FunR L P P' F) {a b:Sc} (h:Rel L a b) (k:UInt8) (nm fr:ByteArray) (ex:List Ex) (args:List ByteArray) (hargs:k.toNat≠11→args=[]):
  scHead P' F (inM b.kn) k (rnOf L nm).1 (rnOf (rnOf L nm).2 fr).1 (Ex.rnSs ex (rnOf (rnOf L nm).2 fr).2).1 (rnL args (Ex.rnSs ex (rnOf (rnOf L nm).2 fr).2).2).1=scHead P F (inM a.kn) k nm fr ex args∧
  (scHead P F (inM a.kn) k nm fr ex args=true→(rnL args (Ex.rnSs ex (rnOf (rnOf L nm).2 fr).2).2).2=(rnOf (rnOf L nm).2 fr).2):=by
 have w1:=rnOf_wf hL nm;have p1:=rnOf_pre (L:=L) nm;have l1:=(rnOf_len L nm).2;have l2:=(rnOf_len (rnOf L nm).2 fr).2;have n1:inM b.kn (rnOf L nm).1=inM a.kn nm:=by rw[h.kn];exact ask_rn hL (by omega) h.k nm
 obtain⟨L1,hL1⟩:∃L1,L1=(rnOf L nm).2:=⟨_,rfl⟩;rw[←hL1] at w1 p1 l1 l2 ⊢;have h1:=h.pre p1;have n2:inM b.kn (rnOf L1 fr).1=inM a.kn fr:=by rw[h1.kn];exact ask_rn w1 (by omega) h1.k fr
 have n3:=(hF.pre p1).any w1 (by omega) fr;have w2:=rnOf_wf w1 fr;have p2:=rnOf_pre (L:=L1) fr;obtain⟨L2,hL2⟩:∃L2,L2=(rnOf L1 fr).2:=⟨_,rfl⟩;rw[←hL2] at w2 p2 l2 ⊢;have h2:=h1.pre p2;have n4:=askss_rn w2 (by omega) h2.k ex;rw[←h2.kn] at n4;unfold scHead;rw[n1,n2,n3,n4.1];cases he:Ex.askss (inM a.kn) ex
 ·simp
 ·rw[n4.2 he];have n5:=all_rn w2 (by omega) h2.k args;rw[←h2.kn] at n5;rw[n5.1];refine⟨rfl,fun hh=>?_⟩;by_cases h11:k.toNat=11
  ·simp only[Bool.and_eq_true,Bool.or_eq_true] at hh;refine n5.2 ?_;rcases hh.2 with hx|hx
   ·simp[h11] at hx
   ·exact hx.1
  ·rw[hargs h11,rnL]
mutual
theorem scStmt_rn {P P':List Fu} {F:Nat}:∀(s:St) (d:Nat) (L:List ByteArray) (a b:Sc),St.ok s d=true→Wf L→FunR L P P' F→Rel L a b→L.length+2*s.size<17570→
  OutR (s.rnS L).2 (L.length+2*s.size) (scStmt P F s a) (scStmt P' F (s.rnS L).1 b)
 | .mk k nm fr se mt ex args body els,d,L,a,b,hok,hL,hF,h,hN=>by
   simp only[St.ok,Bool.and_eq_true] at hok;have ff:=form_facts hok.1.1.2;simp only[St.size] at hN ⊢;have hh:=head_rn hL (by omega) hF h k nm fr ex args (fun h=>(ff.other h).1);have w1:=rnOf_wf hL nm;have p1:=rnOf_pre (L:=L) nm;have l1:=(rnOf_len L nm).2;have w2:=rnOf_wf w1 fr;have p2:=rnOf_pre (L:=(rnOf L nm).2) fr;have l2:=(rnOf_len (rnOf L nm).2 fr).2;have em:=rnOf_e hL nm;have mm:=rnOf_mem (L:=L) nm;rw[St.rnS];simp only;obtain⟨nm',hnm⟩:∃x,x=(rnOf L nm).1:=⟨_,rfl⟩;obtain⟨L1,hL1⟩:∃L1,L1=(rnOf L nm).2:=⟨_,rfl⟩;rw[←hnm] at hh em mm ⊢;rw[←hL1] at hh w1 p1 l1 w2 p2 l2 mm ⊢;obtain⟨fr',hfr⟩:∃x,x=(rnOf L1 fr).1:=⟨_,rfl⟩;obtain⟨L2,hL2⟩:∃L2,L2=(rnOf L1 fr).2:=⟨_,rfl⟩;rw[←hfr] at hh ⊢;rw[←hL2] at hh w2 p2 l2 ⊢;obtain⟨ex',hex⟩:∃x,x=(Ex.rnSs ex L2).1:=⟨_,rfl⟩;obtain⟨L3,hL3⟩:∃L2',L2'=(Ex.rnSs ex L2).2:=⟨_,rfl⟩;rw[←hex,←hL3] at hh ⊢;obtain⟨ar',har⟩:∃x,x=(rnL args L3).1:=⟨_,rfl⟩;obtain⟨L4,hL4⟩:∃L2',L2'=(rnL args L3).2:=⟨_,rfl⟩;rw[←har,←hL4] at hh ⊢;rw[scStmt,scStmt,hh.1];by_cases hd:(!scHead P F (inM a.kn) k nm fr ex args)=true
   ·rw[if_pos hd,if_pos hd];simp[OutR,h.n]
   ·rw[if_neg hd,if_neg hd];have e4:=hh.2 (by simpa using hd);rw[e4];clear hh hd hex har hL3 hL4 e4;have h2:=h.pre (p1.trans p2);have hs2:emp nm=false→nm∈L2∧nm'=rho L2 nm:=fun he=>⟨p2.mem (mm he).1,by rw[p2.rho (mm he).1];exact(mm he).2⟩;rcases h2.gives (by omega) k em hs2 with⟨x,e1,e2⟩|⟨a1,b1,aw,e1,e2,hr1,hm1⟩
    ·rw[e1,e2];rfl
    ·rw[e1,e2];simp only;have r1:=scStmts_rn (P:=P) (P':=P') (F:=F) body (d+1) L2 a1 b1 [] [] hok.1.2 w2 (hF.pre (p1.trans p2)) hr1 rfl (fun x hx=>by cases hx) (by omega);have w5:=rnSts_wf body L2 w2;obtain⟨L5,hL5⟩:∃L5,L5=(St.rnSs body L2).2:=⟨_,rfl⟩;obtain⟨bo',hbo⟩:∃L5,L5=(St.rnSs body L2).1:=⟨_,rfl⟩;rw[←hL5] at r1 w5 ⊢;rw[←hbo] at r1 ⊢;revert r1;cases scStmts P F body a1 [] with
     |error x=>cases scStmts P' F bo' b1 [] with
      |error y=>exact fun r=>r
      |ok q=>exact fun r=>r.elim
     |ok p=>cases scStmts P' F bo' b1 [] with
      |error y=>exact fun r=>r.elim
      |ok q=>
       obtain⟨a2,aw2⟩:=p;obtain⟨b2,bw2⟩:=q;rintro⟨h5,rfl,hm5,hl5⟩;have h5d:=h5.dels (by omega) hm5;have r2:=scStmts_rn (P:=P) (P':=P') (F:=F) els (d+1) L5 (a2.dels aw2) (b2.dels (aw2.map (rho L5))) [] [] hok.2 w5.1 (hF.pre (p1.trans (p2.trans w5.2))) h5d rfl (fun x hx=>by cases hx) (by omega);have w6:=rnSts_wf els L5 w5.1;obtain⟨L6,hL6⟩:∃L5',L5'=(St.rnSs els L5).2:=⟨_,rfl⟩;obtain⟨el',hel⟩:∃L5',L5'=(St.rnSs els L5).1:=⟨_,rfl⟩;rw[←hL6] at r2 w6 ⊢;rw[←hel] at r2 ⊢;simp only;revert r2;cases scStmts P F els (a2.dels aw2) [] with
       |error x=>cases scStmts P' F el' (b2.dels (aw2.map (rho L5))) [] with
        |error y=>exact fun r=>r
        |ok q=>exact fun r=>r.elim
       |ok p=>cases scStmts P' F el' (b2.dels (aw2.map (rho L5))) [] with
        |error y=>exact fun r=>r.elim
        |ok q=>
         obtain⟨a3,aw3⟩:=p;obtain⟨b3,bw3⟩:=q;rintro⟨h6,rfl,hm6,hl6⟩;have h6d:=h6.dels (by omega) hm6;simp only;split
         ·rename_i hk;have hne:emp nm=false:=by
           have h11:k.toNat≠11:=by simp at hk;omega
           have:=emp_of_namedX (ff.other h11).2.2;rw[this];simp at hk;rcases hk with hk|hk<;>simp[nName,hk]
          have hs6:=hs2 hne;have pp:=w5.2.trans w6.2;refine⟨?_,rfl,(fun x hx=>by cases hx),by omega⟩;rw[hs6.2,←pp.rho hs6.1];exact h6d.del (by omega) (pp.mem hs6.1)
         ·exact⟨h6d,by rw[map_pre (w5.2.trans w6.2) hm1],fun x hx=>(w5.2.trans w6.2).mem (hm1 x hx),by omega⟩
theorem scStmts_rn {P P':List Fu} {F:Nat}:∀(l:List St) (d:Nat) (L:List ByteArray) (a b:Sc) (aw bw:List ByteArray),St.oks l d=true→Wf L→FunR L P P' F→Rel L a b→bw=aw.map (rho L)→(∀x∈aw,x∈L)→L.length+2*St.sizes l<17570→
  OutR (St.rnSs l L).2 (L.length+2*St.sizes l) (scStmts P F l a aw) (scStmts P' F (St.rnSs l L).1 b bw)
 |[],d,L,a,b,aw,bw,_,hL,hF,h,hb,hm,hN=>by rw[St.rnSs,scStmts,scStmts];exact⟨h,hb,hm,by simp[St.sizes]⟩
 |s::l,d,L,a,b,aw,bw,hok,hL,hF,h,hb,hm,hN=>by
  simp only[St.oks,Bool.and_eq_true] at hok;simp only[St.sizes] at hN ⊢;rw[St.rnSs,scStmts,scStmts];simp only;have r1:=scStmt_rn (P:=P) (P':=P') (F:=F) s d L _ _ hok.1 hL hF h.next (by omega);have w1:=rnSt_wf s L hL;obtain⟨L1,hL1⟩:∃L5,L5=(s.rnS L).2:=⟨_,rfl⟩;obtain⟨s',hs'⟩:∃L5,L5=(s.rnS L).1:=⟨_,rfl⟩;rw[←hL1] at r1 w1 ⊢;rw[←hs'] at r1 ⊢;revert r1;cases scStmt P F s ⟨a.kn,a.gi,a.n+1⟩ with
  |error x=>cases scStmt P' F s' ⟨b.kn,b.gi,b.n+1⟩ with
   |error y=>exact fun r=>r
   |ok q=>exact fun r=>r.elim
  |ok p=>cases scStmt P' F s' ⟨b.kn,b.gi,b.n+1⟩ with
   |error y=>exact fun r=>r.elim
   |ok q=>
    obtain⟨a2,aw2⟩:=p;obtain⟨b2,bw2⟩:=q;rintro⟨h2,rfl,hm2,hl2⟩;have r2:=scStmts_rn (P:=P) (P':=P') (F:=F) l d L1 a2 b2 (aw++aw2) (bw++aw2.map (rho L1)) hok.2 w1.1 (hF.pre w1.2) h2 (by rw[List.map_append,hb,map_pre w1.2 hm]) (fun x hx=>by
     rcases List.mem_append.1 hx with hx|hx
     ·exact w1.2.mem (hm x hx)
     ·exact hm2 x hx) (by omega)
    simp only;revert r2;cases scStmts P F l a2 (aw++aw2) with
    |error x=>cases scStmts P' F (St.rnSs l L1).1 b2 (bw++aw2.map (rho L1)) with
     |error y=>exact fun r=>r
     |ok q=>exact fun r=>r.elim
    |ok p=>cases scStmts P' F (St.rnSs l L1).1 b2 (bw++aw2.map (rho L1)) with
     |error y=>exact fun r=>r.elim
     |ok q=>exact fun⟨g1,g2,g3,g4⟩=>⟨g1,g2,g3,by omega⟩
end
def OutS (M:List ByteArray) (N:Nat) (r r':Except (Int×Int) Sc):Prop:=match r,r' with
 | .error x,.error y=>x=y
 | .ok a,.ok b=>Rel M a b∧M.length≤N
 |_,_=>False
theorem scParams_rn:∀(l:List Pa) (L:List ByteArray) (a b:Sc),l.all parM=true→Wf L→Rel L a b→L.length+l.length<17570→OutS (Pa.rnSs l L).2 (L.length+l.length) (scParams l a) (scParams (Pa.rnSs l L).1 b)
 |[],L,a,b,_,hL,h,hN=>by rw[Pa.rnSs,scParams,scParams];exact⟨h,by simp⟩
 |x::l,L,a,b,hp,hL,h,hN=>by
  simp only[List.all_cons,Bool.and_eq_true,parM,List.length_cons] at hp hN ⊢;rw[Pa.rnSs,scParams,scParams];simp only;have w1:=rnOf_wf hL x.name;have p1:=rnOf_pre (L:=L) x.name;have l1:=(rnOf_len L x.name).2;have m1:=rnOf_mem (L:=L) x.name (emp_of_named hp.1.1);rw[m1.2];rcases(h.pre p1).give (by omega) m1.1 with⟨y,e1,e2⟩|⟨a1,b1,e1,e2,h1⟩
  ·rw[e1,e2];rfl
  ·rw[e1,e2];simp only;have r:=scParams_rn l (rnOf L x.name).2 a1 b1 hp.2 w1 h1 (by omega);revert r;cases scParams l a1 with
   |error y=>cases scParams (Pa.rnSs l (rnOf L x.name).2).1 b1 with
    |error z=>exact fun r=>r
    |ok q=>exact fun r=>r.elim
   |ok p=>cases scParams (Pa.rnSs l (rnOf L x.name).2).1 b1 with
    |error z=>exact fun r=>r.elim
    |ok q=>exact fun⟨g1,g2⟩=>⟨g1,by omega⟩
theorem scFun_rn {P P':List Fu} {F:Nat} (f:Fu) (L:List ByteArray) (n:Int) (hok:okF f=true) (hL:Wf L) (hF:FunR L P P' F) (hN:L.length+9+2*St.sizes f.body<17570):
  scFun P' F (f.rnS L).1 n=scFun P F f n∧(∀m,scFun P F f n= .ok m→(f.rnS L).2.length≤L.length+9+2*St.sizes f.body):=by
 obtain⟨fn,fp,fb,fs,fr⟩:=f;unfold okF funM fheadM at hok;simp only[Bool.and_eq_true,decide_eq_true_eq] at hok hN ⊢;obtain⟨g1,⟨⟨⟨⟨g2,g3⟩,g4⟩,g5⟩,g6⟩,g7⟩:=hok;unfold Fu.rnS;simp only;have w1:=rnOf_wf hL fn;have p1:=rnOf_pre (L:=L) fn;have l1:=(rnOf_len L fn).2;have a1:=hF.any hL (by omega) fn;obtain⟨fn',hfn⟩:∃x,x=(rnOf L fn).1:=⟨_,rfl⟩;obtain⟨L1,hL1⟩:∃x,x=(rnOf L fn).2:=⟨_,rfl⟩;rw[←hfn] at a1 ⊢;rw[←hL1] at w1 p1 l1 ⊢;rw[scFun_eq,scFun_eq,a1];by_cases hd:((P.take F).any fun g=>sq g.name fn)=true
 ·rw[if_pos hd,if_pos hd];exact⟨rfl,fun m h=>by cases h⟩
 ·rw[if_neg hd,if_neg hd];have r1:=scParams_rn fp L1 ⟨[],[],n⟩ ⟨[],[],n⟩ g7 w1 ⟨rfl,rfl,rfl,(fun x hx=>by cases hx),fun x hx=>by cases hx⟩ (by omega);have w2:=rnPa_wf fp L1 w1;obtain⟨fp',hfp⟩:∃x,x=(Pa.rnSs fp L1).1:=⟨_,rfl⟩;obtain⟨L2,hL2⟩:∃x,x=(Pa.rnSs fp L1).2:=⟨_,rfl⟩;rw[←hfp] at r1 ⊢;rw[←hL2] at r1 w2 ⊢;revert r1;cases scParams fp ⟨[],[],n⟩ with
  |error y=>cases scParams fp' ⟨[],[],n⟩ with
   |error z=>rintro rfl;exact⟨rfl,fun m h=>by cases h⟩
   |ok q=>exact fun r=>r.elim
  |ok p=>cases scParams fp' ⟨[],[],n⟩ with
   |error z=>exact fun r=>r.elim
   |ok q=>
    rintro⟨h2,hl2⟩;simp only;have r2:=scStmts_rn (P:=P) (P':=P') (F:=F) fb 1 L2 p q [] [] g1 w2.1 (hF.pre (p1.trans w2.2)) h2 rfl (fun x hx=>by cases hx) (by omega);have w3:=rnSts_wf fb L2 w2.1;obtain⟨fb',hfb⟩:∃x,x=(St.rnSs fb L2).1:=⟨_,rfl⟩;obtain⟨L3,hL3⟩:∃x,x=(St.rnSs fb L2).2:=⟨_,rfl⟩;rw[←hfb] at r2 ⊢;rw[←hL3] at r2 w3 ⊢;revert r2;cases scStmts P F fb p [] with
    |error y=>cases scStmts P' F fb' q [] with
     |error z=>rintro rfl;exact⟨rfl,fun m h=>by cases h⟩
     |ok q'=>exact fun r=>r.elim
    |ok p'=>cases scStmts P' F fb' q [] with
     |error z=>exact fun r=>r.elim
     |ok q'=>
      obtain⟨a3,aw3⟩:=p';obtain⟨b3,bw3⟩:=q';rintro⟨h3,rfl,hm3,hl3⟩;simp only;have r4:=askss_rn w3.1 (by omega) h3.k fr;rw[←h3.kn] at r4;rw[r4.1,h3.n];refine⟨rfl,fun m h=>?_⟩;cases he:Ex.askss (inM a3.kn) fr
      ·rw[he] at h;simp at h
      ·rw[r4.2 he];omega
theorem rnFus_append:∀(l r:List Fu) (L:List ByteArray),Fu.rnSs (l++r) L=((Fu.rnSs l L).1++(Fu.rnSs r (Fu.rnSs l L).2).1,(Fu.rnSs r (Fu.rnSs l L).2).2)
 |[],r,L=>by rw[List.nil_append];rfl
 |f::l,r,L=>by rw[List.cons_append,Fu.rnSs,rnFus_append l r,Fu.rnSs];rfl
theorem renP_take (P:List Fu) (i:Nat) (h:i≤P.length):(renP P).take i=(Fu.rnSs (P.take i) []).1:=by
 unfold renP
 conv=>lhs;rw[←List.take_append_drop i P,rnFus_append]
 simp only;rw[List.take_append_of_le_length (by rw[rnFuS_length,List.length_take];omega)];exact List.take_of_length_le (by rw[rnFuS_length,List.length_take];omega)
theorem renP_getD (P:List Fu) (i:Nat) (h:i<P.length):(renP P).getD i Fu.zero=((P.getD i Fu.zero).rnS (Fu.rnSs (P.take i) []).2).1:=by
 have e:(renP P).take (i+1)=(Fu.rnSs (P.take i) []).1++[((P.getD i Fu.zero).rnS (Fu.rnSs (P.take i) []).2).1]:=by
  rw[renP_take P (i+1) h,take_snoc P i h,rnFuS_snoc,show P.getD i Fu.zero=P[i] by simp[List.getD_eq_getElem?_getD,h]]
 have hl:(Fu.rnSs (P.take i) []).1.length=i:=by rw[rnFuS_length,List.length_take];omega
 have g:∀l:List Fu,l.getD i Fu.zero=(l.take (i+1)).getD i Fu.zero:=fun l=>by
  rw[List.getD_eq_getElem?_getD,List.getD_eq_getElem?_getD,List.getElem?_take,if_pos (Nat.lt_succ_self i)]
 rw[g,e,List.getD_eq_getElem?_getD,List.getElem?_append_right (by omega),hl];simp
theorem rn_names (l:List Fu):∀(L:List ByteArray),Wf L→l.all okF=true→(Fu.rnSs l L).1.map Fu.name=(l.map Fu.name).map (rho (Fu.rnSs l L).2)∧∀x∈l.map Fu.name,x∈(Fu.rnSs l L).2:=by
 induction l with
 |nil=>intro L _ _;exact⟨rfl,fun x hx=>by cases hx⟩
 |cons f l ih=>
  intro L hL hok;simp only[List.all_cons,Bool.and_eq_true] at hok;have w:=rnFu_wf f L hL;have h:=ih (f.rnS L).2 w.1 hok.2;have w2:=rnFus_wf l (f.rnS L).2 w.1;have hn:emp f.name=false:=by
   have:=hok.1;unfold okF funM fheadM at this;simp only[Bool.and_eq_true] at this;exact emp_of_named this.2.1.1.1.1.1
  have m:=rnOf_mem (L:=L) f.name hn;have pf:Pre (rnOf L f.name).2 (f.rnS L).2:=by
   unfold Fu.rnS;have h1:=rnOf_wf hL f.name;have h2:=rnPa_wf f.params _ h1;have h3:=rnSts_wf f.body _ h2.1;have h4:=rnEs_wf f.ret _ h3.1;exact h2.2.trans (h3.2.trans h4.2)
  have pp:=pf.trans w2.2;rw[Fu.rnSs];simp only[List.map_cons,List.mem_cons];refine⟨?_,fun x hx=>?_⟩
  ·rw[h.1];have:(f.rnS L).1.name=rho (Fu.rnSs l (f.rnS L).2).2 f.name:=by
    rw[pp.rho m.1];exact m.2
   rw[this]
  ·rcases hx with rfl|hx
   ·exact pp.mem m.1
   ·exact h.2 x hx
theorem names_key (P:List Fu) (hm:mayM P=true):∀i,i≤P.length→scWalk (renP P) i=scWalk P i∧(∀n,scWalk P i= .ok n→(Fu.rnSs (P.take i) []).2.length≤9*i+2*Fu.sizes (P.take i)):=by
 unfold mayM at hm;simp only[Bool.and_eq_true,decide_eq_true_eq] at hm;obtain⟨hok,h16,h400⟩:=hm;intro i
 induction i with
 |zero=>intro _;refine⟨by rw[scWalk,scWalk],fun n _=>by simp[Fu.rnSs]⟩
 |succ i ih=>
  intro hi;obtain⟨e1,e2⟩:=ih (by omega);rw[scWalk,scWalk,e1];cases hw:scWalk P i with
  |error x=>exact⟨rfl,fun n h=>by cases h⟩
  |ok n=>
   have hlen:=e2 n hw;simp only;have hg:P.getD i Fu.zero=P[i]:=by rw[List.getD_eq_getElem?_getD,List.getElem?_eq_getElem (show i<P.length by omega)];rfl
   have hokt:(P.take i).all okF=true:=by
    rw[List.all_eq_true] at hok ⊢;exact fun x hx=>hok x (List.mem_of_mem_take hx)
   have hokf:okF P[i]=true:=List.all_eq_true.1 hok _ (List.getElem_mem _);have hwf:=(rnFus_wf (P.take i) [] Wf.nil).1;have hF:FunR (Fu.rnSs (P.take i) []).2 P (renP P) i:=by
    have:=rn_names (P.take i) [] Wf.nil hokt;exact⟨by rw[renP_take P i (by omega)];exact this.1,this.2⟩
   have hs1:=fsizes_take P i hi;have hs2:=fsizes_take_le P (i+1);have r:=scFun_rn P[i] _ n hokf hwf hF (by omega);rw[renP_getD P i hi,hg];refine⟨r.1,fun m h=>?_⟩;have:=r.2 m h;rw[take_snoc P i hi,rnFuS_snoc];simp only;rw[←take_snoc P i hi];omega
theorem names_len (P:List Fu) (hm:mayM P=true) {n:Int} (h:scWalk P P.length= .ok n):(Fu.rnSs P []).2.length≤944:=by
 have h1:=(names_key P hm P.length (Nat.le_refl _)).2 n h;unfold mayM at hm;simp only[Bool.and_eq_true,decide_eq_true_eq] at hm;rw[List.take_length] at h1;omega
theorem law_names (P:List Fu) (hm:mayM P=true):scCheck (renP P)=scCheck P:=by
 have hm':=mayM_rn P hm;have key:=names_key P hm;unfold scCheck;rw[hm,hm',renP_length,(key P.length (Nat.le_refl _)).1]
end Go.Proofs.YtgiomfnpkkdknaaGreatDoor
