/- Contracts and laws, Mh19 -/
import Derived.Test.YtpkpgmnbheenbaaGreatDoorMh01
import Derived.Test.YtpkpgmnbheenbaaGreatDoorMh18
import Derived.Deep.CutBlock
import Derived.StillTailTactics
import Derived.Deep.RegionWith
namespace Go.Proofs.YtpkpgmnbheenbaaGreatDoor
open Go.RowKit
set_option linter.unusedVariables false
set_option linter.unusedSimpArgs false
set_option maxHeartbeats 8000000
set_option maxRecDepth 100000
theorem callee_succ {P:List Fu} {k:Nat} (hk:k<P.length) (s:ByteArray):calleeM P (k+1) s=if sq P[k].name s then P[k] else calleeM P k s:=by
 unfold calleeM;rw[List.take_succ_eq_append_getElem hk,List.reverse_append];show(List.find? _ (P[k]::(P.take k).reverse)).getD _=_
 cases h:sq P[k].name s with
 |true=>rw[List.find?_cons_of_pos (by rw[h]),if_pos rfl];rfl
 |false=>rw[List.find?_cons_of_neg (by rw[h];decide),if_neg (by decide)]
structure FuRd (ok:Nat→Prop) (w:World) (f:Fu) (A1 A2 A3:Option Addr) (c1 c2 c3:Nat):Prop where
 params:f.params.length≤c1∧f.params.length*24≤reach∧RdRows ok w 4 A1 0 (f.params.map Pa.d)
 ret:f.ret.length≤c3∧f.ret.length*64≤reach
theorem FuRd.fr {ok:Nat→Prop} {w w':World} {f:Fu} {A1 A2 A3:Option Addr} {c1 c2 c3:Nat} {S:Nat→Prop} (h:FuRd ok w f A1 A2 A3 c1 c2 c3) (hf:Fr S w w') (hs:∀q,ok q→¬S q):FuRd ok w' f A1 A2 A3 c1 c2 c3:=
 ⟨⟨h.params.1,h.params.2.1,h.params.2.2.fr hf hs fun _ h=>h⟩,h.ret⟩
theorem FuRd.zero (ok:Nat→Prop) (w:World):FuRd ok w Fu.zero none none none 0 0 0:=⟨⟨Nat.le_refl _,by decide,trivial⟩,Nat.le_refl _,by decide⟩
def CalleeR (ok:Nat→Prop) (w:World) (f:Fu) (e:Ending) (w':World):Prop:=∃A1 A2 A3 c1 c2 c3,e= .returned (fuV f A1 A2 A3 c1 c2 c3)∧FuRd ok w' f A1 A2 A3 c1 c2 c3∧Fr Non w w'
def CalleeOn (ok:Nat→Prop) (P:List Fu) (s:ByteArray) (rb:Nat) (W1:World) (k:Nat) (wr:World):Prop:=
 ∃f A1 A2 A3 c1 c2 c3,calleeM P k s=f∧wr.heap[rb]? =some (.cells #[.string f.name,.slice A1 f.params.length c1,.slice A2 f.body.length c2,.bool f.sec,.slice A3 f.ret.length c3] 53 (0,0))∧FuRd ok wr f A1 A2 A3 c1 c2 c3∧Fr (fun q=>q=rb) W1 wr
theorem blk_putf {w:World} {g:Nat} {a0 a1 a2 a3 a4:Value} {T:TypeId} (h:w.heap[g]? =some (.cells #[a0,a1,a2,a3,a4] T (0,0))) (v0 v1 v2 v3 v4:Value):
  (((((w.setCell ⟨g,0,none⟩ v0).setCell ⟨g,1,none⟩ v1).setCell ⟨g,2,none⟩ v2).setCell ⟨g,3,none⟩ v3).setCell ⟨g,4,none⟩ v4).heap[g]? =some (.cells #[v0,v1,v2,v3,v4] T (0,0)):=by
 have h0:(w.setCell ⟨g,0,none⟩ v0).heap[g]? =some (.cells #[v0,a1,a2,a3,a4] T (0,0)):=blk_set h 0 v0;have h1:((w.setCell ⟨g,0,none⟩ v0).setCell ⟨g,1,none⟩ v1).heap[g]? =some (.cells #[v0,v1,a2,a3,a4] T (0,0)):=blk_set h0 1 v1;have h2:(((w.setCell ⟨g,0,none⟩ v0).setCell ⟨g,1,none⟩ v1).setCell ⟨g,2,none⟩ v2).heap[g]? =some (.cells #[v0,v1,v2,a3,a4] T (0,0)):=blk_set h1 2 v2;have h3:((((w.setCell ⟨g,0,none⟩ v0).setCell ⟨g,1,none⟩ v1).setCell ⟨g,2,none⟩ v2).setCell ⟨g,3,none⟩ v3).heap[g]? =some (.cells #[v0,v1,v2,v3,a4] T (0,0)):=blk_set h2 3 v3;exact blk_set h3 4 v4
theorem fr_putf {g:Nat} {w:World} (v0 v1 v2 v3 v4:Value):Fr (fun k=>k=g) w (((((w.setCell ⟨g,0,none⟩ v0).setCell ⟨g,1,none⟩ v1).setCell ⟨g,2,none⟩ v2).setCell ⟨g,3,none⟩ v3).setCell ⟨g,4,none⟩ v4):=
 (((((Fr.refl (fun k=>k=g) w).setCell ⟨g,0,none⟩ _ (.inl rfl)).setCell ⟨g,1,none⟩ _ (.inl rfl)).setCell ⟨g,2,none⟩ _ (.inl rfl)).setCell ⟨g,3,none⟩ _ (.inl rfl)).setCell ⟨g,4,none⟩ _ (.inl rfl)
theorem ecallee_any (base b:Nat) (ok:Nat→Prop) (PA:Option Addr) (pc:Nat) (P:List Fu) (F:Nat) (ru:Int) (w:World) (a:Ev) (bk:Nat) (s:ByteArray) (h:EvAt base b (.slice PA P.length pc) ru F w a bk) (hP:ScP base ok PA pc P F w):
  Calls Tryz.prog 134 #[.pointer (some ⟨b,0,none⟩),.string s] w (CalleeR ok w (calleeM P F s)):=by
 have hPl:P.length≤140737488355328:=by have:=hP.hc;unfold reach at this;omega
 have hF:=hP.hF;have hpc:=hP.hpc;have hoks:∀q,ok q→q<w.heap.size:=fun q hq=>by have h1:=hP.hok q hq;have h2:=(h.lt b (.inl rfl));omega
 obtain⟨pg,po,_,_,_,_,_,_,hpa,_⟩:=at_fu hP.rows 0 (by omega);subst hpa;obtain⟨W1,HW1⟩:∃W1,W1=w.alloc (.cells #[.string ⟨#[]⟩,.slice none 0 0,.slice none 0 0,.bool false,.slice none 0 0] 53):=⟨_,rfl⟩;have hf1:Fr Non w W1:=by rw[HW1];exact(Zf w).alloc _
 have hb1:W1.heap[w.heap.size]? =some (.cells #[.string ⟨#[]⟩,.slice none 0 0,.slice none 0 0,.bool false,.slice none 0 0] 53 (0,0)):=by rw[HW1];exact blk_new _ _ _
 have H1:=Zh (h.stay hf1);clear h;have HP:=Zh (hP.fr hf1 fun _ _=>non _);clear hP;have HB1:=Zh hb1;clear hb1;have F1:=Zh hf1;clear hf1;have HOKS:=Zh hoks;clear hoks;have b0:=(Zc H1.out.blk).1 0 _ rfl;have b2:=(Zc H1.out.blk).1 2 _ rfl;go_enter Tryz.func134,Tryz.ntmps134;go_upto_region 1 with fail;rw[←HW1];clear HW1
 go_region
 obtain⟨Wd,hwd⟩:∃Wd,Wd=W1.drew:=⟨_,rfl⟩;rw[←hwd];have hfd:Fr Non W1 Wd:=by rw[hwd];exact(Zf _).drew
 clear hwd b0 b2;have HPd:=Zh (HP.out.fr hfd fun _ _=>non _);have HBd:=Zh (Zb HB1.out hfd (non _));have Fd:=Zh (F1.out.trans hfd);clear hfd;go_wp2_with fail
 go_loopw [18] (fun i wr=>∃k:Nat,i= .int .i64 k∧k≤F∧CalleeOn ok P s w.heap.size Wd k wr) (fun i _=>F-(intOf i).toNat)
 case atStart=>exact⟨0,rfl,by omega,Fu.zero,none,none,none,0,0,0,rfl,HBd.out,FuRd.zero _ _,Fr.refl _ _⟩
 case round=>
  obtain⟨k,rfl,hk,f,B1,B2,B3,d1,d2,d3,hcf,hblk,hrd,hfr⟩:=hrel;have HCF:=Zh hcf;clear hcf;have HBK:=Zh hblk;clear hblk;have HRD:=Zh hrd;clear hrd;have FR:=Zh (Fd.out.then hfr (S:=Non) fun q hq e=>by have e:q=w.heap.size:=e;omega);have HFR:=Zh hfr;have HNO:∀q,ok q→¬(fun q=>q=w.heap.size) q:=fun q hq e=>by have e:q=w.heap.size:=e;have:=HOKS.out q hq;omega
  have HNO:=Zh HNO;by_cases hlt:k<F
  ·have hkP:k<P.length:=by omega
   obtain⟨g,o,A1,c1,A2,c2,A3,c3,hpe,hd,e0,e1,e2,e3,e4,r1,r2,r3⟩:=at_fu (HPd.out.rows.fr hfr HNO.out fun _ h=>h) k hkP;obtain⟨rfl,rfl⟩:pg=g∧po=o:=by cases hpe;exact⟨rfl,rfl⟩
   have HRX:=Zh (⟨r1,r3.1,r3.2.1⟩:FuRd ok wr P[k] A1 A2 A3 c1 c2 c3);have HCS:=Zh (callee_succ hkP s);clear hpe r1 r2 r3 hfr;generalize P[k]=x at*;obtain⟨W2,HW2⟩:∃W2,W2=wr.alloc (.cells #[.string x.name,.slice A1 x.params.length c1,.slice A2 x.body.length c2,.bool x.sec,.slice A3 x.ret.length c3] 53):=⟨_,rfl⟩;have hf2:Fr Non wr W2:=by rw[HW2];exact(Zf _).alloc _
   have X2:=Zh (show W2.heap[wr.heap.size]? =some (.cells #[.string x.name,.slice A1 x.params.length c1,.slice A2 x.body.length c2,.bool x.sec,.slice A3 x.ret.length c3] 53 (0,0)) by rw[HW2];exact blk_new _ _ _);have HBK2:=Zh (Zb HBK.out hf2 (non _));have HF2:=Zh hf2;clear hf2;have x0:=(Zc X2.out).1 0 _ rfl;go_upto_region 4 with fail;rw[←HW2];clear HW2 e0 e1 e2 e3 e4;cases hq:sq x.name s with
   |false=>
    have hq':(x.name.toList==s.toList)=false:=by rw[tosq];exact hq
    have HQ:=Zh hq;clear hq;go_wp2_with fail;go_roundw
    case rel=>exact⟨k+1,by go_num,by omega,f,B1,B2,B3,d1,d2,d3,by rw[HCS.out,HQ.out,if_neg (by decide)];exact HCF.out,HBK2.out,HRD.out.fr HF2.out fun _ _=>non _,HFR.out.trans HF2.out.non⟩
    case measure=>simp[intOf];omega
   |true=>
    have hq':(x.name.toList==s.toList)=true:=by rw[tosq];exact hq
    have HQ:=Zh hq;clear hq;have x1:=(Zc X2.out).1 1 _ rfl;have x2:=(Zc X2.out).1 2 _ rfl;have x3:=(Zc X2.out).1 3 _ rfl;have x4:=(Zc X2.out).1 4 _ rfl;have f0:=(Zc HBK2.out).1 0 _ rfl;have f1:=(Zc HBK2.out).1 1 _ rfl;have f2:=(Zc HBK2.out).1 2 _ rfl;have f3:=(Zc HBK2.out).1 3 _ rfl;have f4:=(Zc HBK2.out).1 4 _ rfl;have ff:=(Zc HBK2.out).2;have HZ:=Zh (blk_putf HBK2.out (.string x.name) (.slice A1 x.params.length c1) (.slice A2 x.body.length c2) (.bool x.sec) (.slice A3 x.ret.length c3));have FZ:=Zh (fr_putf (g:=w.heap.size) (w:=W2) (.string x.name) (.slice A1 x.params.length c1) (.slice A2 x.body.length c2) (.bool x.sec) (.slice A3 x.ret.length c3));go_upto_region 6 with fail;generalize ((((W2.setCell ⟨w.heap.size,0,none⟩ (.string x.name)).setCell ⟨w.heap.size,1,none⟩ (.slice A1 x.params.length c1)).setCell ⟨w.heap.size,2,none⟩ (.slice A2 x.body.length c2)).setCell ⟨w.heap.size,3,none⟩ (.bool x.sec)).setCell ⟨w.heap.size,4,none⟩ (.slice A3 x.ret.length c3)=wz at*;clear f0 f1 f2 f3 f4 ff x0 x1 x2 x3 x4;go_wp2_with fail;go_roundw
    case rel=>exact⟨k+1,by go_num,by omega,x,A1,A2,A3,c1,c2,c3,by rw[HCS.out,HQ.out,if_pos rfl],HZ.out,(HRX.out.fr HF2.out fun _ _=>non _).fr FZ.out HNO.out,HFR.out.trans (HF2.out.non.trans FZ.out)⟩
    case measure=>simp[intOf];omega
  ·have hke:k=F:=by omega
   subst hke;clear hfr;have f0:=(Zc HBK.out).1 0 _ rfl;have f1:=(Zc HBK.out).1 1 _ rfl;have f2:=(Zc HBK.out).1 2 _ rfl;have f3:=(Zc HBK.out).1 3 _ rfl;have f4:=(Zc HBK.out).1 4 _ rfl;have ff:=(Zc HBK.out).2;have HZ:=Zh (blk_putf HBK.out (.string f.name) (.slice B1 f.params.length d1) (.slice B2 f.body.length d2) (.bool f.sec) (.slice B3 f.ret.length d3));have FZ:=Zh (fr_putf (g:=w.heap.size) (w:=wr) (.string f.name) (.slice B1 f.params.length d1) (.slice B2 f.body.length d2) (.bool f.sec) (.slice B3 f.ret.length d3));go_wp2_with fail;generalize ((((wr.setCell ⟨w.heap.size,0,none⟩ (.string f.name)).setCell ⟨w.heap.size,1,none⟩ (.slice B1 f.params.length d1)).setCell ⟨w.heap.size,2,none⟩ (.slice B2 f.body.length d2)).setCell ⟨w.heap.size,3,none⟩ (.bool f.sec)).setCell ⟨w.heap.size,4,none⟩ (.slice B3 f.ret.length d3)=wz at*;clear f0 f1 f2 f3 f4 ff;have f0:=(Zc HZ.out).1 0 _ rfl;have f1:=(Zc HZ.out).1 1 _ rfl;have f2:=(Zc HZ.out).1 2 _ rfl;have f3:=(Zc HZ.out).1 3 _ rfl;have f4:=(Zc HZ.out).1 4 _ rfl;refine bodyPost_ret (v:=fuV f B1 B2 B3 d1 d2 d3) (by simp[results,Tryz.results134,go_sem,f0,f1,f2,f3,f4]) rfl ?_;rw[HCF.out];exact⟨B1,B2,B3,d1,d2,d3,rfl,HRD.out.fr FZ.out HNO.out,FR.out.then FZ.out fun q hq e=>by have e:q=w.heap.size:=e;omega⟩
def Pa.cells (p:Pa):List Value:=[.string p.name,.bool p.buf,.bool p.sec,.bool p.mt]
def pasC (l:List Pa):List Value:=l.flatMap Pa.cells
theorem pasC_at:∀(l:List Pa) (j:Nat) (hj:j<l.length) (i:Nat),i<4→(pasC l)[j*4+i]? =(l[j].cells)[i]?
 |v::l,0,_,i,hi=>by
  simp only[pasC,List.flatMap_cons,Nat.zero_mul,Nat.zero_add,List.getElem_cons_zero];rw[List.getElem?_append_left (by simpa[Pa.cells] using hi)]
 |v::l,j+1,hj,i,hi=>by
  have:=pasC_at l j (by simpa using hj) i hi;simp only[pasC,List.flatMap_cons,List.getElem_cons_succ] at this ⊢;rw[List.getElem?_append_right (by simp[Pa.cells];omega),←this];congr 1;simp[Pa.cells];omega
theorem pasC_snoc (l:List Pa) (x:Pa):pasC (l++[x])=pasC l++x.cells:=by simp[pasC]
theorem app_pas {ops:Array Oper} {rest:List Oper} {o:Oper} {a:Act} {Q:Exit→Act→World→Prop} {w:World} (hgd:o.guard=none) (s x:Operand)
  (ho:o.op= .call {callee:=.builtin .append,args:=#[s,x],argTypes:=#[51,51]})
  (base:Nat) (v:Value) (l:List Pa) (hs:a.eval s=v) (hown:w.ownsRow base 56 4 v l.length (pasC l))
  (ad:Addr) (c:Nat) (y:Pa) (hx:a.eval x= .slice (some ad) 1 c) (hcell:∀j u,y.cells[j]? =some u→w.cell? (ad.add j)=some u)
  (hb1:l.length*24≤reach) (hbase:base≤w.heap.size)
  (h:∀v' w',w'.ownsRow base 56 4 v' (l++[y]).length (pasC (l++[y]))→(∀k,v'.ownBlock=some k→v.ownBlock=some k∨w.heap.size≤k)→Fr (fun k=>base≤k∧v.ownBlock=some k) w w'→wpList Tryz.prog ops Q rest (a.put o.dst v') w'):wpList Tryz.prog ops Q (o::rest) a w:=by
 have hi:(Tryz.prog.info? 56).map (fun i=>(i.zero,i.size,i.bytes))=some (some paZ,4,24):=by kernel_rfl
 have ht:Tryz.prog.underlying 51=some (.slice 56):=by kernel_rfl
 obtain⟨i0,h0,hz1,hz2,hz3⟩:=info_parts hi;obtain⟨v',w',hr,hrow',hg,hwh⟩:=run_append_where (P:=Tryz.prog) w base 51 o.type 56 i0 paZ 4 24 ht h0 hz1 hz2 hz3 rfl (by decide) v l.length (pasC l) hown ad 1 c y.cells (by simp[Pa.cells]) hcell (by
  intro u hu;simp only[Pa.cells,List.mem_cons,List.not_mem_nil,or_false] at hu;rcases hu with rfl|rfl|rfl|rfl<;>rfl) (by unfold reach at hb1;unfold maxLen;omega) (by unfold reach at hb1;omega) hbase
 have hfr:Fr (fun k=>base≤k∧v.ownBlock=some k) w w':=⟨hg.os,hg.tape,hg.output,hg.size,fun k hk hn=>hg.block k hk fun e=>hn ⟨(hown.lt k e.symm).1,e.symm⟩⟩;exact wp_append_run hgd s x ho hs hx hr (h v' w' (by rw[List.length_append,pasC_snoc];exact hrow') (fun k hk=>(hwh k hk).imp id (fun e=>by omega)) hfr)
theorem pas_at {base:Nat} {w:World} {v:Value} {l:List Pa} (h:w.ownsRow base 56 4 v l.length (pasC l)) (k:Nat) (hk:k<l.length):
  ∃g c,v= .slice (some ⟨g,0,none⟩) l.length c∧w.cell? ⟨g,k*4,none⟩=some (.string (l.getD k Pa.zero).name)∧w.cell? ⟨g,k*4+1,none⟩=some (.bool (l.getD k Pa.zero).buf)∧
   w.cell? ⟨g,k*4+2,none⟩=some (.bool (l.getD k Pa.zero).sec)∧w.cell? ⟨g,k*4+3,none⟩=some (.bool (l.getD k Pa.zero).mt):=by
 obtain⟨A,c,rfl,_⟩:=row_slice h;obtain⟨g,rfl,_,hc⟩:=row_at h (by omega);have e:l.getD k Pa.zero=l[k]:=by rw[List.getD_eq_getElem?_getD,List.getElem?_eq_getElem hk,Option.getD_some]
 rw[e];have q:=fun i hi u hu=>(hc (k*4+i) u (by rw[pasC_at l k hk i hi];exact hu)).1;exact⟨g,c,rfl,q 0 (by omega) _ rfl,q 1 (by omega) _ rfl,q 2 (by omega) _ rfl,q 3 (by omega) _ rfl⟩
theorem mget_cons (p:ByteArray×Value) (l:List (ByteArray×Value)) (s:ByteArray) (z:Value):mget (p::l) s z=if sq p.1 s then p.2 else mget l s z:=by
 unfold mget;cases h:sq p.1 s with
 |true=>rw[List.find?_cons_of_pos (p:=fun p:ByteArray×Value=>sq p.1 s) h];rfl
 |false=>rw[List.find?_cons_of_neg (p:=fun p:ByteArray×Value=>sq p.1 s) (by rw[h];decide)];rfl
theorem mget_nil (s:ByteArray) (z:Value):mget [] s z=z:=rfl
theorem mget_mset (a s:ByteArray) (v z:Value):∀l:List (ByteArray×Value),mget (mset l a v) s z=if sq a s&&mhas l a then v else mget l s z
 |[]=>by simp[mget,mset,mhas]
 |p::l=>by
  have ih:=mget_mset a s v z l;have hh:mhas (p::l) a=(sq p.1 a||mhas l a):=rfl;cases hp:sq p.1 a with
  |true=>
   have hpa:=sq_iff.1 hp;have hm:mset (p::l) a v=(p.1,v)::mset l a v:=by show(if sq p.1 a=true then(p.1,v) else p)::_=_;rw[hp];rfl
   rw[hm,hh,hp,mget_cons,mget_cons,ih,hpa];cases hs:sq a s<;>simp
  |false=>
   have hm:mset (p::l) a v=p::mset l a v:=by show(if sq p.1 a=true then(p.1,v) else p)::_=_;rw[hp];rfl
   rw[hm,hh,hp,mget_cons,mget_cons,ih,Bool.false_or];cases hps:sq p.1 s with
   |true=>
    have hsa:sq a s=false:=sq_no fun e=>by rw[sq_iff.1 hps,←e,sq_refl] at hp;cases hp
    rw[hsa];simp
   |false=>simp
theorem mget_mput (l:List (ByteArray×Value)) (a s:ByteArray) (v z:Value):mget (mput l a v) s z=if sq a s then v else mget l s z:=by
 unfold mput;cases hh:mhas l a with
 |true=>rw[if_pos rfl,mget_mset,hh,Bool.and_true]
 |false=>
  rw[if_neg (by decide)];have happ:∀l:List (ByteArray×Value),mget (l++[(a,v)]) s z=if mhas l s then mget l s z else if sq a s then v else z:=by
   intro l
   induction l with
   |nil=>rw[List.nil_append,mget_cons,mget_nil];rfl
   |cons p l ih=>
    rw[List.cons_append,mget_cons,mget_cons,ih,show mhas (p::l) s=(sq p.1 s||mhas l s) from rfl];cases sq p.1 s<;>simp
  rw[happ];cases hms:mhas l s with
  |true=>
   have hsa:sq a s=false:=sq_no fun e=>by rw[e,hms] at hh;cases hh
   rw[hsa];simp
  |false=>rw[mget_no hms];simp
theorem times_snoc (l:List ByteArray) (x s:ByteArray):timesM (l++[x]) s=timesM l s+if sq x s then 1 else 0:=by
 unfold timesM;rw[List.countP_append];cases h:sq x s<;>simp[h]
theorem undTi:Tryz.prog.underlying 179=some (.map 9 3):=by kernel_rfl
theorem zeroTi (w:World):(zeroValue 3).run Tryz.prog w= .ok (.int .i64 0) w:=by kernel_rfl
def TimesAt (w:World) (bt:Nat) (l:List ByteArray):Prop:=∃m,MapS w bt m∧∀s,mget m s (.int .i64 0)= .int .i64 (timesM l s:Nat)
theorem TimesAt.new (w:World):TimesAt (w.alloc (.map #[] 0)) w.heap.size []:=⟨[],MapS.new w,fun _=>rfl⟩
theorem TimesAt.fr {S:Nat→Prop} {w w':World} {bt:Nat} {l:List ByteArray} (h:TimesAt w bt l) (hf:Fr S w w') (hs:¬S bt):TimesAt w' bt l:=by
 obtain⟨m,h1,h2⟩:=h;exact⟨m,h1.fr hf hs,h2⟩
theorem TimesAt.look {w:World} {bt:Nat} {l:List ByteArray} (h:TimesAt w bt l) (s:ByteArray):(Instr.lookup 179 (.map (some bt)) (.string s) false).run Tryz.prog w= .ok (.int .i64 (timesM l s:Nat)) w:=by
 obtain⟨m,h1,h2⟩:=h;have:=(h1.look undTi undStr zeroTi s).2;rw[h2] at this;exact this
theorem TimesAt.put {w:World} {bt:Nat} {l:List ByteArray} (h:TimesAt w bt l) (s:ByteArray):
  ∃w',(Instr.mapUpdate 179 (.map (some bt)) (.string s) (.int .i64 ((timesM l s:Nat)+1))).run Tryz.prog w= .ok () w'∧TimesAt w' bt (l++[s])∧Fr (fun k=>k=bt) w w':=by
 obtain⟨m,h1,h2⟩:=h;obtain⟨w',hr,hm,hf⟩:=h1.put undTi undStr s (.int .i64 ((timesM l s:Nat)+1));refine⟨w',hr,⟨_,hm,fun x=>?_⟩,hf⟩;rw[mget_mput,times_snoc];cases hx:sq s x with
 |true=>rw[if_pos rfl,if_pos rfl,←sq_iff.1 hx];rfl
 |false=>rw[if_neg (by decide),if_neg (by decide),h2];rfl
theorem times_le (l:List ByteArray) (s:ByteArray):timesM l s≤l.length:=List.countP_le_length
def goneT (l m:NL) (todo:ByteArray→Bool):NL:=l.map fun p=>if todo p.1 then p else(p.1,{p.2 with gone:=p.2.gone||(nget m p.1).gone})
theorem goneT_keys (l m:NL) (todo:ByteArray→Bool):(goneT l m todo).map (·.1)=l.map (·.1):=by
 unfold goneT;rw[List.map_map];apply List.map_congr_left;intro p _;simp only[Function.comp];split<;>rfl
theorem goneT_all (l m:NL):goneT l m (fun _=>true)=l:=by
 unfold goneT;simp
theorem goneT_end {l m:NL} {todo:ByteArray→Bool} (h:∀p∈nvs (goneT l m todo),todo p.1=false):goneT l m todo=ngone l m:=by
 have h':∀p∈l,todo p.1=false:=fun p hp=>by
  have hm:p.1∈(goneT l m todo).map (·.1):=by rw[goneT_keys];exact List.mem_map.2 ⟨p,hp,rfl⟩
  obtain⟨q,hq,e⟩:=List.mem_map.1 hm;have:=h (q.1,q.2.v) (List.mem_map.2 ⟨q,hq,rfl⟩);rw[←e];exact this
 unfold goneT ngone;apply List.map_congr_left;intro p hp;rw[h' p hp];rfl
theorem goneT_step {l m:NL} {todo:ByteArray→Bool} {s:ByteArray} {x:Nm} (hn:(l.map (·.1)).Nodup) (hin:(s,x)∈goneT l m todo) (ht:todo s=true):nset (goneT l m todo) s {x with gone:=x.gone||(nget m s).gone}=goneT l m (strikeS todo s):=by
 obtain⟨q,hq,e⟩:=List.mem_map.1 hin;have hqk:q.1=s:=by
  have:=congrArg Prod.fst e;simp only at this;rw[←this];split<;>rfl
 rw[if_pos (by rw[hqk];exact ht)] at e;unfold goneT nset;rw[List.map_map];apply List.map_congr_left;intro p hp;simp only[Function.comp];cases hs:sq p.1 s with
 |true=>
  have hpk:=sq_iff.1 hs;have hpq:p=q:=nodup_inj hn hp hq (hpk.trans hqk.symm);have hts:strikeS todo s p.1=false:=by rw[strikeS,hs];simp
  rw[hts,hpk,ht,if_pos rfl];rw[hpk,sq_refl,if_pos rfl,if_neg (by decide),hpq,e]
 |false=>
  have hts:strikeS todo s p.1=todo p.1:=by rw[strikeS,hs];simp
  rw[hts];cases todo p.1 with
  |true=>rw[if_pos rfl,hs];rfl
  |false=>show(if sq p.1 s=true then _ else _)=_;rw[hs];rfl
theorem mset_nvs (l:NL) (s:ByteArray) (x:Nm):mset (nvs l) s x.v=nvs (nset l s x):=by
 rw[mset,nset,nvs,nvs,List.map_map,List.map_map];apply List.map_congr_left;intro p _;simp only[Function.comp];split<;>rfl
theorem EvAt.setm {base b:Nat} {PV:Value} {ru:Int} {F:Nat} {w:World} {a:Ev} {bk bm:Nat} {l:NL} (h:EvAt base b PV ru F w a bk) (hm:MapS w bm (nvs l)) (hb:base≤bm):EvAt base b PV ru F (w.setCell ⟨b,5,none⟩ (.map (some bm))) (a.with l) bm:=by
 have hne:bm≠b:=by
  have h1:=h.blk;rintro rfl;obtain⟨es,cl,hb,_⟩:=hm;rw[h1] at hb;cases hb
 have hf:Fr (fun k=>k=b) w (w.setCell ⟨b,5,none⟩ (.map (some bm))):=(Fr.refl (fun k=>k=b) w).setCell _ _ (.inl rfl);exact⟨blk_set h.blk 5 _,hm.fr hf hne,h.hb,hb⟩
theorem evif_t {a:Ev} {ok:Bool} {r:Er Ev} (h:ok=true):a.if ok r=r:=by subst h;rfl
def EiOn (bk2 rb:Nat) (l m:NL) (w5 wz:World):Prop:=∃todo,MapI wz rb bk2 (nvs (goneT l m todo)) todo∧Fr (fun k=>k=rb∨k=bk2) w5 wz
theorem eeither_of (base b:Nat) (ok:Nat→Prop) (PA:Option Addr) (pc:Nat) (P:List Fu) (F:Nat) (ru:Int) (N:Nat) (BK:EBlC base b ok PA pc P F ru N) (s:St) (d:Nat) (A1 A2 A3 A4:Option Addr) (c1 c2 c3 c4:Nat) (w:World) (a:Ev) (bk:Nat)
  (hk:s.kind.toNat=5) (hN:s.size≤N+1) (hok:St.ok s d=true) (hrd:StRd ok w s A1 A2 A3 A4 c1 c2 c3 c4) (hn0:0≤a.n) (hn1:a.n+s.size≤1099511627777) (hl0:0≤a.loops) (hl1:a.loops≤d)
  (h:EvAt base b (.slice PA P.length pc) ru F w a bk) (hP:ScP base ok PA pc P F w):
  Calls Tryz.prog 92 #[.pointer (some ⟨b,0,none⟩),stV s A1 A2 A3 A4 c1 c2 c3 c4] w (StE base b (.slice PA P.length pc) ru F w bk (evStmt ru P F s a)):=by
 have FF:=form_facts (sc_form s d hok);have hlen:=(FF.other (by omega)).2.1;have HS:=Zh (evs_5 ru P F s a hk);have hx0:0<s.ex.length:=by simp[nEx,hk] at hlen;omega
 have HEM0:=Zh (exs_all FF.exs hx0);have hsz:s.size=1+St.sizes s.body+St.sizes s.els:=St.size_eq s;have hob:St.oks s.body (d+1)=true∧St.oks s.els (d+1)=true:=by
  rw[St.ok_eq] at hok;simp only[Bool.and_eq_true] at hok;exact⟨hok.1.2,hok.2⟩
 have HOB:=Zh hob;clear hob;obtain⟨xb,xo,rfl⟩:∃xb xo,A1=some ⟨xb,xo,none⟩:=by obtain⟨xb,xo,_,_,e,_⟩:=ex_cells hrd.ex.2.2 0 hx0;exact⟨xb,xo,e⟩
 have hl9:s.ex.length≤140737488355328:=by have:=hrd.ex.2.1;unfold reach at this;omega
 clear FF hlen hok;obtain⟨W0,HW0⟩:∃W0,W0=w.alloc (.cells #[vu8 s.kind,.string s.name,.string s.frm,.bool s.sec,.bool s.mt,.slice (some ⟨xb,xo,none⟩) s.ex.length c1,.slice A2 s.args.length c2,.slice A3 s.body.length c3,.slice A4 s.els.length c4] 42):=⟨_,rfl⟩;have hf0:Fr Non w W0:=by rw[HW0];exact(Zf w).alloc _
 have B0:=Zh (show W0.heap[w.heap.size]? =some (.cells #[vu8 s.kind,.string s.name,.string s.frm,.bool s.sec,.bool s.mt,.slice (some ⟨xb,xo,none⟩) s.ex.length c1,.slice A2 s.args.length c2,.slice A3 s.body.length c3,.slice A4 s.els.length c4] 42 (0,0)) by rw[HW0];exact blk_new _ _ _);have H0:=Zh (h.stay hf0);have D0:=Zh (hrd.fr hf0 fun _ _=>non _);have F0:=Zh hf0;have hwb:=(h.lt b (.inl rfl)).2;have hwk:=(h.lt bk (.inr rfl)).2;have hbb:=h.hb;have hbk:=h.hk;have HP:=Zh hP;have hoks:∀q,ok q→q<base:=hP.hok;have HOKS:=Zh hoks;have hsb:St.sizes s.body≤N:=by omega
 have hse:St.sizes s.els≤N:=by omega
 have hnb:a.n+St.sizes s.body≤1099511627776:=by omega
 have HSZ:=Zh hsz;clear h hrd hf0 hP hoks hsz;go_enter Tryz.func92,Tryz.ntmps92;go_upto_region 1 with fail;rw[←HW0];clear HW0;have s5:=(Zc B0.out).1 5 _ rfl;obtain⟨xb',xo',xA,xc,xe,x0,x1,x2,x3,x4,xr⟩:=ex_cells D0.out.ex.2.2 0 hx0;obtain⟨rfl,rfl⟩:xb=xb'∧xo=xo':=by cases xe;exact⟨rfl,rfl⟩
 clear xe;simp only[Nat.zero_mul,Nat.one_mul,Nat.add_zero] at x0 x1 x2 x3 x4;go_wp2_with fail;refine(einto_any (exAt s.ex 0) false ok xA xc base b _ ru F W0 a bk HEM0.out xr H0.out).mono ?_;rintro r w1 ⟨he,hf⟩;clear s5 x0 x1 x2 x3 x4;have H1:=Zh (H0.out.stay hf);have B1:=Zh (Zb B0.out hf (non _));have D1:=Zh (D0.out.fr hf fun _ _=>non _);have F1:=Zh (F0.out.trans hf);clear hf xr;cases hq:a.into ru (exAt s.ex 0) false with
 |false=>
  rw[hq] at he;obtain rfl:=he.f;clear he;have Q1:=Zh hq;clear hq;go_wp2_with fail;exact⟨rfl,stE_no HS.out (Q1.out) F1.out⟩
 |true=>
  rw[hq] at he;obtain rfl:=he.t;clear he;have HS:=Zh (HS.out.trans (evif_t hq));clear hq;have b5:=(Zc H1.out.blk).1 5 _ rfl;have hz1:w.heap.size<w1.heap.size:=blk_lt B1.out;have HCL:=Zh (eclone_any bk (nvs a.nm) w1 H1.out.nm);go_wp2_with fail;refine HCL.out.mono ?_;rintro e w2 ⟨rfl,hm,hf⟩;obtain⟨bm,hbm⟩:∃bm,bm=w1.heap.size:=⟨_,rfl⟩;rw[←hbm] at hm ⊢;have M2:=Zh hm;have hz2:bm<w2.heap.size:=hm.lt;have hb1:w.heap.size<bm:=by omega
  have H2:=Zh (H1.out.stay hf);have B2:=Zh (Zb B1.out hf (non _));have D2:=Zh (D1.out.fr hf fun _ _=>non _);have F2:=Zh (F1.out.trans hf);clear hf hm b5 hbm;have s7:=(Zc B2.out).1 7 _ rfl;have HB1:=Zh (BK s.body (d+1) A3 c3 w2 a bk hsb HOB.out.1 D2.out.body.2.2 D2.out.body.2.1 hn0 hnb hl0 (by omega) H2.out (HP.out.fr F2.out fun _ _=>non _));go_wp2_with fail;refine HB1.out.mono ?_;intro e w3 hst;clear s7;cases hbd:evBlock ru P F s.body a with
  |error n=>
   rw[hbd] at hst;obtain⟨rfl,hf⟩:=hst;have HR:=Zh (show evStmt ru P F s a= .error n by rw[HS.out,hbd]);clear hbd;have F3:=Zh (F2.out.non.trans hf);clear hf;go_wp2_with fail;exact⟨rfl,stE_err HR.out F3.out⟩
  |ok a1=>
   rw[hbd] at hst;obtain⟨bk1,rfl,hf,h3,hb3⟩:=hst;have HS:=Zh (show evStmt ru P F s a=(match evBlock ru P F s.els (a1.with a.nm) with
    | .error x=>.error x
    | .ok a2=>.ok (a2.with (ngone a2.nm a1.nm))) by rw[HS.out,hbd];rfl)
   have hnn:=evKeep_ok hbd;obtain⟨a0,ha0,ha1⟩:=hnn;have hnn:=evStmts_n ru P F s.body a a0 ha0;have e1:a1.n=a0.n∧a1.loops=a0.loops:=by rw[ha1];exact⟨rfl,rfl⟩
   have hn2:0≤a1.n:=by omega
   have hn3:a1.n+St.sizes s.els≤1099511627776:=by have:=HSZ.out;omega
   have hl2:a1.loops=a.loops:=by omega
   have HL2:=Zh hl2;have hl3:0≤a1.loops:=by omega
   have hl4:a1.loops≤d:=by omega
   clear hbd ha0 ha1 hnn e1 hl2 a0;have hfar:∀q,w.heap.size≤q→¬ES b bk q:=fun q hq hs=>by rcases hs with e|e<;>omega
   have M3:=Zh (M2.out.fr hf (hfar _ (by omega)));have B3:=Zh (Zb B2.out hf (hfar _ (Nat.le_refl _)));have D3:=Zh (D2.out.fr hf fun q hq hs=>by have:=HOKS.out q hq;rcases hs with e|e<;>omega);have F3:=Zh (F2.out.non.trans hf);have hz3:w2.heap.size≤w3.heap.size:=hf.size;have H3:=Zh h3;have hb1k:bk1≠bm:=by omega
   have hb1b:bk1≠b:=h3.ne;have hb1l:bk1<w3.heap.size:=h3.nm.lt;have b5:=(Zc h3.blk).1 5 _ rfl;have bf:=(Zc h3.blk).2;have hbl:=blk_lt h3.blk;clear hf h3 hfar;have hf4:Fr (fun q=>q=b) w3 (w3.setCell ⟨b,5,none⟩ (.map (some bm))):=(Fr.refl _ _).setCell _ _ (.inl rfl);have H4:=Zh (H3.out.setm M3.out (by omega));have A4m:=Zh (H3.out.nm.fr hf4 hb1b);have B4:=Zh (Zb B3.out hf4 (by omega));have D4:=Zh (D3.out.fr hf4 fun q hq hs=>by have:=HOKS.out q hq;have hs:q=b:=hs;omega);have F4:=Zh (F3.out.trans (hf4.mono (T:=ES b bk) fun _ _ h=>.inl h));clear hf4;have hz4:(w3.setCell ⟨b,5,none⟩ (.map (some bm))).heap.size=w3.heap.size:=by simp[World.setCell]
   go_upto_region 6 with fail;generalize w3.setCell ⟨b,5,none⟩ (.map (some bm))=w4 at*;clear b5 bf;have s8:=(Zc B4.out).1 8 _ rfl;have hz4':w3.heap.size≤w4.heap.size:=by omega
   clear hz4;have HB2:=Zh (BK s.els (d+1) A4 c4 w4 (a1.with a.nm) bm hse HOB.out.2 D4.out.els.2.2 D4.out.els.2.1 hn2 hn3 hl3 (by show a1.loops≤_;omega) H4.out (HP.out.fr F4.out fun q hq hs=>by have:=HOKS.out q hq;rcases hs with e|e<;>omega));go_wp2_with fail;refine HB2.out.mono ?_;intro e w5 hst;clear s8;cases hbd:evBlock ru P F s.els (a1.with a.nm) with
   |error n=>
    rw[hbd] at hst;obtain⟨rfl,hf⟩:=hst;have HR:=Zh (show evStmt ru P F s a= .error n by rw[HS.out,hbd]);clear hbd;have F5:=Zh (es_then F4.out (.inr (by omega)) hf);clear hf;go_wp2_with fail;exact⟨rfl,stE_err HR.out F5.out⟩
   |ok a2=>
    rw[hbd] at hst;obtain⟨bk2,rfl,hf,h5,hb5⟩:=hst;have HR:=Zh (show evStmt ru P F s a= .ok (a2.with (ngone a2.nm a1.nm)) by rw[HS.out,hbd]);clear hbd;have A5:=Zh (A4m.out.fr hf (by rintro(e|e)<;>omega));have F5:=Zh (es_then F4.out (.inr (by omega)) hf);have H5:=Zh h5;have hz5:w4.heap.size≤w5.heap.size:=hf.size;have hb2:w.heap.size≤bk2:=by omega
    have hb21:bk2≠bk1:=by omega
    have hb2b:bk2≠b:=h5.ne;have hb2l:bk2<w5.heap.size:=h5.nm.lt;have b5:=(Zc h5.blk).1 5 _ rfl;clear hf h5;obtain⟨w6,hrg,hmi,hf6⟩:=MapS.range (P:=Tryz.prog) H5.out.nm undNm;obtain⟨rb,hrb⟩:∃rb,rb=w5.heap.size:=⟨_,rfl⟩;rw[←hrb] at hrg hmi;have hr1:rb≠b:=by omega
    have hr2:rb≠bk2:=by omega
    have hr3:rb≠bk1:=by omega
    have hr4:w.heap.size≤rb:=by omega
    have HMI:=Zh hmi;clear hmi;have H6:=Zh (H5.out.stay hf6);have A6:=Zh (A5.out.fr hf6 (non _));have F6:=Zh (F5.out.trans hf6.non);clear hf6 hrb;have HND:=Zh (nvs_nodup H5.out.nm);go_wp2_with fail;clear hrg b5
    go_loopw [] (fun wz=>EiOn bk2 rb a2.nm a1.nm w6 wz) (fun wz=>wz.rangeLeft bk2 rb)
    case atStart=>exact⟨_,by rw[goneT_all];exact HMI.out,Fr.refl _ _⟩
    case round=>
     obtain⟨todo,hmi,hfr⟩:=hrel;have HFR:=Zh hfr;have hblk:=Zb H6.out.blk hfr (by rintro(e|e)<;>omega);have hmm:=A6.out.fr hfr (by rintro(e|e)<;>omega);clear hfr;rcases hmi.next (P:=Tryz.prog) with⟨hall,hnx⟩|⟨s1,v1,w7,hin,htd,hnx,hmi7,hen,hf7,hlt⟩
     ·have HALL:=Zh hall;clear hall;have HMI2:=Zh hmi;clear hmi;have HBLK:=Zh hblk;clear hblk hmm;go_wp2_with fail
      go_end0
      rw[HR.out];refine⟨bk2,rfl,?_,⟨HBLK.out,by have:=HMI2.out.map;rw[goneT_end HALL.out] at this;exact this,H6.out.hb,H6.out.hk⟩,.inr hb2⟩;exact F6.out.then HFR.out fun k hk h=>by rcases h with e|e<;>omega
     ·obtain⟨x,hx,rfl⟩:=nvs_mem hin;have HIN:=Zh hx;have HHAS:=Zh (show nhas (goneT a2.nm a1.nm todo) s1=true from List.any_eq_true.2 ⟨_,hx,sq_refl s1⟩);clear hx hin;obtain⟨y,hy⟩:∃y,nget a1.nm s1=y:=⟨_,rfl⟩;have HB7:=Zh (Zb hblk hf7 (fun e=>hr1 e.symm));have HFR7:=Zh (HFR.out.trans (hf7.mono fun _ _ h=>.inl h));have hm7:=hmm.fr hf7 (fun e=>hr3 e.symm);have HLT:=Zh hlt;clear hmm hmi hblk hf7 hlt;obtain⟨xg,hxg⟩:∃g,x.gone=g:=⟨_,rfl⟩;obtain⟨yg,hyg⟩:∃g,y.gone=g:=⟨_,rfl⟩;obtain⟨w8,hw8⟩:∃w8,w8=w7.alloc (.cells #[.bool x.buf,.bool x.sec,.bool x.mt,.bool x.own,.bool x.set,.bool xg,.int .i64 x.lent,.int .i64 x.loops] 104):=⟨_,rfl⟩;have hf8:Fr Non w7 w8:=by rw[hw8];exact(Zf _).alloc _
      have HX8:=Zh (show w8.heap[w7.heap.size]? =some (.cells #[.bool x.buf,.bool x.sec,.bool x.mt,.bool x.own,.bool x.set,.bool xg,.int .i64 x.lent,.int .i64 x.loops] 104 (0,0)) by rw[hw8];exact blk_new _ _ _);have hl8:=((hm7.fr hf8 (non _)).look undNm undStr zeroNm s1).2;have hfd:=field_ngone y;rw[mget_nvs,hy] at hl8;unfold Nm.v at hnx hen hl8;rw[hxg] at hnx hen;rw[hyg] at hl8 hfd;have HMI8:=Zh (hmi7.fr hf8 (non _) (non _));have HB8:=Zh (Zb HB7.out hf8 (non _));have HF8:=Zh hf8;have HXG:=Zh hxg;have HYG:=Zh hyg;have HY:=Zh hy;clear hf8 hm7 hxg hyg hy;have x5:=(Zc HX8.out).1 5 _ rfl;have xf:=(Zc HX8.out).2;go_upto_region 10 with fail;rw[←hw8];clear hw8 hnx hen;cases xg with
      |true=>
       have HFX9:=Zh (show Fr (fun q=>q=w7.heap.size) w8 (w8.setCell ⟨w7.heap.size,5,none⟩ (.bool true)) from(Fr.refl _ _).setCell _ _ (.inl rfl));have X9:=Zh (show(w8.setCell ⟨w7.heap.size,5,none⟩ (.bool true)).heap[w7.heap.size]? =some (.cells #[.bool x.buf,.bool x.sec,.bool x.mt,.bool x.own,.bool x.set,.bool true,.int .i64 x.lent,.int .i64 x.loops] 104 (0,0)) from blk_set HX8.out 5 _);go_upto_region 11 with fail;generalize w8.setCell ⟨w7.heap.size,5,none⟩ (.bool true)=w9 at*;clear x5 xf hl8 hfd;have MI9:=Zh (HMI8.out.fr HFX9.out (by show¬rb=w7.heap.size;have:=hmi7.lt;omega) (by show¬bk2=w7.heap.size;have:=hmi7.map.lt;omega));have L9:=Zh (HMI8.out.left_fr HFX9.out (by show¬rb=w7.heap.size;have:=hmi7.lt;omega) (by show¬bk2=w7.heap.size;have:=hmi7.map.lt;omega));have b5:=(Zc (Zb HB8.out HFX9.out (by have:=blk_lt HB7.out;show¬b=w7.heap.size;omega))).1 5 _ rfl;have x0:=(Zc X9.out).1 0 _ rfl;have x1:=(Zc X9.out).1 1 _ rfl;have x2:=(Zc X9.out).1 2 _ rfl;have x3:=(Zc X9.out).1 3 _ rfl;have x4:=(Zc X9.out).1 4 _ rfl;have x5:=(Zc X9.out).1 5 _ rfl;have x6:=(Zc X9.out).1 6 _ rfl;have x7:=(Zc X9.out).1 7 _ rfl;have hbl9:=blk_lt (Zb HB8.out HFX9.out (by have:=blk_lt HB7.out;show¬b=w7.heap.size;omega));have hz7:w6.heap.size≤w7.heap.size:=HFR7.out.size;have HF9:=Zh (show Fr (fun k=>k=rb∨k=bk2) w6 w9 from(HFR7.out.trans HF8.out.non).then HFX9.out fun k hk e=>by have e:k=w7.heap.size:=e;omega);obtain⟨wa,hput,hmia,hfa,hlea⟩:=(MI9.out.fr (Zf w9).drew (non _) (non _)).put (P:=Tryz.prog) undNm undStr s1 (Nm.v {x with gone:=true}) (by rw[mhas_nvs];exact HHAS.out);rw[mset_nvs] at hmia;have LA:=Zh hlea;have MIA:=Zh hmia;have HFA:=Zh (HF9.out.trans ((Zf w9).drew.non.trans (hfa.mono (T:=fun k=>k=rb∨k=bk2) fun _ _ h=>.inr h)));have LD:=Zh (MI9.out.left_fr (Zf w9).drew (non _) (non _));have L8:=Zh (hmi7.left_fr HF8.out (non _) (non _));clear hlea hmia hfa;unfold Nm.v at hput
       go_still_tail 6,(by kernel_rfl)
       change wpList _ _ _ _ _ w9.drew
       go_wp2_with fail;go_roundw
       case rel=>
        refine⟨strikeS todo s1,?_,HFA.out⟩;have hs:=goneT_step (m:=a1.nm) HND.out HIN.out htd;rw[HY.out,HXG.out,HYG.out] at hs;rw[←hs];exact MIA.out
       case measure=>have h1:=LA.out;have h2:=LD.out;have h3:=L9.out;have h4:=L8.out;have h5:=HLT.out;omega
      |false=>
       have HFX9:=Zh (show Fr (fun q=>q=w7.heap.size) w8 (w8.setCell ⟨w7.heap.size,5,none⟩ (.bool yg)) from(Fr.refl _ _).setCell _ _ (.inl rfl));have X9:=Zh (show(w8.setCell ⟨w7.heap.size,5,none⟩ (.bool yg)).heap[w7.heap.size]? =some (.cells #[.bool x.buf,.bool x.sec,.bool x.mt,.bool x.own,.bool x.set,.bool yg,.int .i64 x.lent,.int .i64 x.loops] 104 (0,0)) from blk_set HX8.out 5 _);go_upto_region 11 with fail;generalize w8.setCell ⟨w7.heap.size,5,none⟩ (.bool yg)=w9 at*;clear x5 xf hl8 hfd;have MI9:=Zh (HMI8.out.fr HFX9.out (by show¬rb=w7.heap.size;have:=hmi7.lt;omega) (by show¬bk2=w7.heap.size;have:=hmi7.map.lt;omega));have L9:=Zh (HMI8.out.left_fr HFX9.out (by show¬rb=w7.heap.size;have:=hmi7.lt;omega) (by show¬bk2=w7.heap.size;have:=hmi7.map.lt;omega));have b5:=(Zc (Zb HB8.out HFX9.out (by have:=blk_lt HB7.out;show¬b=w7.heap.size;omega))).1 5 _ rfl;have x0:=(Zc X9.out).1 0 _ rfl;have x1:=(Zc X9.out).1 1 _ rfl;have x2:=(Zc X9.out).1 2 _ rfl;have x3:=(Zc X9.out).1 3 _ rfl;have x4:=(Zc X9.out).1 4 _ rfl;have x5:=(Zc X9.out).1 5 _ rfl;have x6:=(Zc X9.out).1 6 _ rfl;have x7:=(Zc X9.out).1 7 _ rfl;have hbl9:=blk_lt (Zb HB8.out HFX9.out (by have:=blk_lt HB7.out;show¬b=w7.heap.size;omega));have hz7:w6.heap.size≤w7.heap.size:=HFR7.out.size;have HF9:=Zh (show Fr (fun k=>k=rb∨k=bk2) w6 w9 from(HFR7.out.trans HF8.out.non).then HFX9.out fun k hk e=>by have e:k=w7.heap.size:=e;omega);obtain⟨wa,hput,hmia,hfa,hlea⟩:=(MI9.out.fr (Zf w9).drew (non _) (non _)).put (P:=Tryz.prog) undNm undStr s1 (Nm.v {x with gone:=yg}) (by rw[mhas_nvs];exact HHAS.out);rw[mset_nvs] at hmia;have LA:=Zh hlea;have MIA:=Zh hmia;have HFA:=Zh (HF9.out.trans ((Zf w9).drew.non.trans (hfa.mono (T:=fun k=>k=rb∨k=bk2) fun _ _ h=>.inr h)));have LD:=Zh (MI9.out.left_fr (Zf w9).drew (non _) (non _));have L8:=Zh (hmi7.left_fr HF8.out (non _) (non _));clear hlea hmia hfa;unfold Nm.v at hput
       go_still_tail 6,(by kernel_rfl)
       change wpList _ _ _ _ _ w9.drew
       go_wp2_with fail;go_roundw
       case rel=>
        refine⟨strikeS todo s1,?_,HFA.out⟩;have hs:=goneT_step (m:=a1.nm) HND.out HIN.out htd;rw[HY.out,HXG.out,HYG.out] at hs;rw[←hs];exact MIA.out
       case measure=>have h1:=LA.out;have h2:=LD.out;have h3:=L9.out;have h4:=L8.out;have h5:=HLT.out;omega
theorem EvAt.okk {base b:Nat} {PV:Value} {ru:Int} {F:Nat} {w:World} {a:Ev} {bk:Nat} {ok:Nat→Prop} (h:EvAt base b PV ru F w a bk) (hok:∀q,ok q→q<base):∀q,ok q→¬ES b bk q:=fun q hq hs=>by
 have h1:=hok q hq;have h2:=h.hb;have h3:=h.hk;rcases hs with e|e<;>omega
theorem eloop_of (base b:Nat) (ok:Nat→Prop) (PA:Option Addr) (pc:Nat) (P:List Fu) (F:Nat) (ru:Int) (N:Nat) (BK:EBlC base b ok PA pc P F ru N) (s:St) (d:Nat) (A1 A2 A3 A4:Option Addr) (c1 c2 c3 c4:Nat) (w:World) (a:Ev) (bk:Nat)
  (hk:s.kind.toNat=6∨s.kind.toNat=7) (hN:s.size≤N+1) (hok:St.ok s d=true) (hrd:StRd ok w s A1 A2 A3 A4 c1 c2 c3 c4) (hn0:0≤a.n) (hn1:a.n+s.size≤1099511627777) (hl0:0≤a.loops) (hl1:a.loops≤d)
  (h:EvAt base b (.slice PA P.length pc) ru F w a bk) (hP:ScP base ok PA pc P F w):
  Calls Tryz.prog 93 #[.pointer (some ⟨b,0,none⟩),stV s A1 A2 A3 A4 c1 c2 c3 c4] w (StE base b (.slice PA P.length pc) ru F w bk (evStmt ru P F s a)):=by
 have FF:=form_facts (sc_form s d hok);have hlen:=(FF.other (by omega)).2.1;have hnmx:=emp_of_namedX (FF.other (by omega)).2.2;have HS:=Zh (evs_67 ru P F s a hk);have hx0:0<s.ex.length:=by rcases hk with k6|k7<;>simp[nEx, *] at hlen<;>omega
 have HEM0:=Zh (exs_all FF.exs hx0);have hsz:s.size=1+St.sizes s.body+St.sizes s.els:=St.size_eq s;have hob:St.oks s.body (d+1)=true∧d≤40:=by
  rw[St.ok_eq] at hok;simp only[Bool.and_eq_true,decide_eq_true_eq] at hok;exact⟨hok.1.2,hok.1.1.1⟩
 have hd40:=hob.2;have HOB:=Zh hob.1;clear hob;obtain⟨xb,xo,rfl⟩:∃xb xo,A1=some ⟨xb,xo,none⟩:=by obtain⟨xb,xo,_,_,e,_⟩:=ex_cells hrd.ex.2.2 0 hx0;exact⟨xb,xo,e⟩
 have hl9:s.ex.length≤140737488355328:=by have:=hrd.ex.2.1;unfold reach at this;omega
 clear FF hlen hok;obtain⟨W0,HW0⟩:∃W0,W0=w.alloc (.cells #[vu8 s.kind,.string s.name,.string s.frm,.bool s.sec,.bool s.mt,.slice (some ⟨xb,xo,none⟩) s.ex.length c1,.slice A2 s.args.length c2,.slice A3 s.body.length c3,.slice A4 s.els.length c4] 42):=⟨_,rfl⟩;have hf0:Fr Non w W0:=by rw[HW0];exact(Zf w).alloc _
 have B0:=Zh (show W0.heap[w.heap.size]? =some (.cells #[vu8 s.kind,.string s.name,.string s.frm,.bool s.sec,.bool s.mt,.slice (some ⟨xb,xo,none⟩) s.ex.length c1,.slice A2 s.args.length c2,.slice A3 s.body.length c3,.slice A4 s.els.length c4] 42 (0,0)) by rw[HW0];exact blk_new _ _ _);have H0:=Zh (h.stay hf0);have D0:=Zh (hrd.fr hf0 fun _ _=>non _);have F0:=Zh hf0;have hwb:=(h.lt b (.inl rfl)).2;have hwk:=(h.lt bk (.inr rfl)).2;have hbb:=h.hb;have hbk:=h.hk;have HP:=Zh hP;have hoks:∀q,ok q→q<base:=hP.hok;have HOKS:=Zh hoks;have hsb:St.sizes s.body≤N:=by omega
 have hnb:a.n+St.sizes s.body≤1099511627776:=by omega
 clear h hrd hf0 hP hoks hsz;go_enter Tryz.func93,Tryz.ntmps93;go_upto_region 1 with fail;rw[←HW0];clear HW0;have s5:=(Zc B0.out).1 5 _ rfl;obtain⟨xb',xo',xA,xc,xe,x0,x1,x2,x3,x4,xr⟩:=ex_cells D0.out.ex.2.2 0 hx0;obtain⟨rfl,rfl⟩:xb=xb'∧xo=xo':=by cases xe;exact⟨rfl,rfl⟩
 clear xe;simp only[Nat.zero_mul,Nat.one_mul,Nat.add_zero] at x0 x1 x2 x3 x4;go_wp2_with fail;refine(einto_any (exAt s.ex 0) false ok xA xc base b _ ru F W0 a bk HEM0.out xr H0.out).mono ?_;rintro r w1 ⟨he,hf⟩;clear s5 x0 x1 x2 x3 x4;have H1:=Zh (H0.out.stay hf);have B1:=Zh (Zb B0.out hf (non _));have D1:=Zh (D0.out.fr hf fun _ _=>non _);have F1:=Zh (F0.out.trans hf);clear hf xr;cases hq:a.into ru (exAt s.ex 0) false with
 |false=>
  rw[hq] at he;obtain rfl:=he.f;clear he;have Q1:=Zh hq;clear hq;go_wp2_with fail;exact⟨rfl,stE_no HS.out (Q1.out) F1.out⟩
 |true=>
  rw[hq] at he;obtain rfl:=he.t;clear he;have HS:=Zh (HS.out.trans (evif_t hq));clear hq;have b4:=(Zc H1.out.blk).1 4 _ rfl;have bf:=(Zc H1.out.blk).2;have hbl:=blk_lt H1.out.blk;have hz1:w.heap.size<w1.heap.size:=blk_lt B1.out;have hf2:Fr (fun q=>q=b) w1 (w1.setCell ⟨b,4,none⟩ (.int .i64 (a.loops+1))):=(Fr.refl _ _).setCell _ _ (.inl rfl);have H2:=Zh (H1.out.setl (a.loops+1));have B2:=Zh (Zb B1.out hf2 (by omega));have D2:=Zh (D1.out.fr hf2 fun q hq hs=>by have:=HOKS.out q hq;have hs:q=b:=hs;omega);have F2:=Zh (F1.out.non.trans (hf2.mono (T:=ES b bk) fun _ _ h=>.inl h));have hz2:(w1.setCell ⟨b,4,none⟩ (.int .i64 (a.loops+1))).heap.size=w1.heap.size:=by simp[World.setCell]
  clear hf2;go_upto_region 3 with fail;generalize w1.setCell ⟨b,4,none⟩ (.int .i64 (a.loops+1))=w2 at*;have hz2':w.heap.size<w2.heap.size:=by omega
  clear b4 bf hz2;have s1:=(Zc B2.out).1 1 _ rfl;have hlp:(a.loopIn s.name).loops=a.loops+1:=(loopIn_n a s.name).2;have hlpn:(a.loopIn s.name).n=a.n:=(loopIn_n a s.name).1
  go_upto_if 19 with fail
  go_cut [] (fun wx=>EvAt base b (.slice PA P.length pc) ru F wx (a.loopIn s.name) bk∧Fr (ES b bk) w2 wx)
  case first=>
   cases hem:emp s.name with
   |true=>
    have hem':=hem;rw[←toemp] at hem';have hem2:(!s.name.toList.isEmpty)=false:=by rw[hem'];rfl
    have HLI:=Zh (show a.loopIn s.name=a.at (a.loops+1) by rw[Ev.loopIn,if_pos hem]);clear hem;rw[hem2];go_wp2_with fail
    go_meet
    exact⟨by rw[HLI.out];exact H2.out,Fr.refl _ _⟩
   |false=>
    have hem':=hem;rw[←toemp] at hem';have hem2:(!s.name.toList.isEmpty)=true:=by rw[hem'];rfl
    have HLI:=Zh (show a.loopIn s.name=(a.at (a.loops+1)).give s.name Nm.zero by rw[Ev.loopIn,if_neg (by rw[hem];decide)]);clear hem;rw[hem2];go_wp2_with fail;refine(egive_any base b _ ru F w2 (a.at (a.loops+1)) bk s.name Nm.zero H2.out).mono ?_;rintro r w3 ⟨rfl,hf,h⟩;have HZ:=Zh h;have FZ:=Zh (hf.mono (T:=ES b bk) fun _ _ h=>.inr h);clear h hf;go_wp2_with fail
    go_meet
    exact⟨by rw[HLI.out];exact HZ.out,FZ.out⟩
  case rest=>
   obtain⟨h3,hf3⟩:=hcut;have H3:=Zh h3;clear h3;have hfar:∀q,w.heap.size≤q→¬ES b bk q:=fun q hq hs=>by rcases hs with e|e<;>omega
   have B3:=Zh (Zb B2.out hf3 (hfar _ (Nat.le_refl _)));have D3:=Zh (D2.out.fr hf3 (H2.out.okk HOKS.out));have F3:=Zh (F2.out.trans hf3);have hz3:w2.heap.size≤wc.heap.size:=hf3.size;clear hf3 s1;have s7:=(Zc B3.out).1 7 _ rfl;have HB1:=Zh (BK s.body (d+1) A3 c3 wc (a.loopIn s.name) bk hsb HOB.out D3.out.body.2.2 D3.out.body.2.1 (by omega) (by omega) (by omega) (by omega) H3.out (HP.out.fr F3.out (H2.out.okk HOKS.out)));go_wp2_with fail;refine HB1.out.mono ?_;intro e w4 hst;clear s7;cases hbd:evBlock ru P F s.body (a.loopIn s.name) with
   |error n=>
    rw[hbd] at hst;obtain⟨rfl,hf⟩:=hst;have HR:=Zh (show evStmt ru P F s a= .error n by rw[HS.out,hbd]);clear hbd;have F4:=Zh (F3.out.trans hf);clear hf;go_wp2_with fail;exact⟨rfl,stE_err HR.out F4.out⟩
   |ok a1=>
    rw[hbd] at hst;obtain⟨bk1,rfl,hf,h4,hb4⟩:=hst;have HR:=Zh (show evStmt ru P F s a= .ok ((a1.at (a1.loops-1)).del s.name) by rw[HS.out,hbd]);obtain⟨a0,ha0,ha1⟩:=evKeep_ok hbd;have hnn:=evStmts_n ru P F s.body _ a0 ha0;have e1:a1.loops=a0.loops:=by rw[ha1];rfl
    have hl1':a1.loops=a.loops+1:=by omega
    have hl2':0≤a1.loops:=by omega
    have hl3':a1.loops≤41:=by omega
    clear hbd ha0 ha1 hnn e1 a0 hl1';have B4:=Zh (Zb B3.out hf (hfar _ (Nat.le_refl _)));have F4:=Zh (F3.out.trans hf);have hz4:wc.heap.size≤w4.heap.size:=hf.size;have H4:=Zh h4;have hbk1:bk1=bk∨w.heap.size≤bk1:=by omega
    have HBK1:=Zh hbk1;have b4:=(Zc h4.blk).1 4 _ rfl;have bf:=(Zc h4.blk).2;have hbl4:=blk_lt h4.blk;clear hf h4 hb4 hbk1;have hf5:Fr (fun q=>q=b) w4 (w4.setCell ⟨b,4,none⟩ (.int .i64 (a1.loops-1))):=(Fr.refl _ _).setCell _ _ (.inl rfl);have H5:=Zh (H4.out.setl (a1.loops-1));have B5:=Zh (Zb B4.out hf5 (by omega));have F5:=Zh (F4.out.trans (hf5.mono (T:=ES b bk) fun _ _ h=>.inl h));have hz5:(w4.setCell ⟨b,4,none⟩ (.int .i64 (a1.loops-1))).heap.size=w4.heap.size:=by simp[World.setCell]
    clear hf5;go_upto_region 7 with fail;generalize w4.setCell ⟨b,4,none⟩ (.int .i64 (a1.loops-1))=w5 at*;clear b4 bf;have b5:=(Zc H5.out.blk).1 5 _ rfl;have s1:=(Zc B5.out).1 1 _ rfl
    go_still_tail 6,(by kernel_rfl)
    change wpList _ _ _ _ _ w5.drew
    obtain⟨w6,hr,h6,hf6⟩:=(H5.out.stay (Zf w5).drew).rm s.name 0;have H6:=Zh h6;clear h6;have F6:=Zh (es_then F5.out HBK1.out ((Zf w5).drew.non.trans hf6));clear hf6;refine wp_delete_run rfl (.tmp 39) (.tmp 41) rfl rfl rfl hr ?_;clear hr b5 s1;go_wp2_with fail
    go_end0
    rw[HR.out];exact⟨bk1,rfl,F6.out,H6.out,HBK1.out⟩
theorem blk_new2 {w:World} (c1 c2:Array Value) (T1 T2:TypeId):((w.alloc (.cells c1 T1)).alloc (.cells c2 T2)).heap[w.heap.size+1]? =some (.cells c2 T2 (0,0)):=blk_new' (by simp) _ _
theorem elend_of (base b:Nat) (ok:Nat→Prop) (PA:Option Addr) (pc:Nat) (P:List Fu) (F:Nat) (ru:Int) (N:Nat) (BK:EBlC base b ok PA pc P F ru N) (s:St) (d:Nat) (A1 A2 A3 A4:Option Addr) (c1 c2 c3 c4:Nat) (w:World) (a:Ev) (bk:Nat)
  (hk:s.kind.toNat=8) (hN:s.size≤N+1) (hok:St.ok s d=true) (hrd:StRd ok w s A1 A2 A3 A4 c1 c2 c3 c4) (hn0:0≤a.n) (hn1:a.n+s.size≤1099511627777) (hl0:0≤a.loops) (hl1:a.loops≤d)
  (h:EvAt base b (.slice PA P.length pc) ru F w a bk) (hP:ScP base ok PA pc P F w):
  Calls Tryz.prog 94 #[.pointer (some ⟨b,0,none⟩),stV s A1 A2 A3 A4 c1 c2 c3 c4] w (StE base b (.slice PA P.length pc) ru F w bk (evStmt ru P F s a)):=by
 have FF:=form_facts (sc_form s d hok);have hlen:=(FF.other (by omega)).2.1;have hnmx:=emp_of_namedX (FF.other (by omega)).2.2;have HS:=Zh (evs_8 ru P F s a hk);have hx1:1<s.ex.length:=by simp[nEx,hk] at hlen;omega
 have hx0:0<s.ex.length:=by omega
 have HEM0:=Zh (exs_all FF.exs hx0);have HEM1:=Zh (exs_all FF.exs hx1);have HLO:=Zh (show a.lendOk ru s.frm s.mt s.ex=(a.into ru (exAt s.ex 0) false&&(a.into ru (exAt s.ex 1) false&&((a.g s.frm).bufOk ru&&(!s.mt||(a.g s.frm).turnOk ru)))) from rfl);have hsz:s.size=1+St.sizes s.body+St.sizes s.els:=St.size_eq s;have hob:St.oks s.body (d+1)=true∧d≤40:=by
  rw[St.ok_eq] at hok;simp only[Bool.and_eq_true,decide_eq_true_eq] at hok;exact⟨hok.1.2,hok.1.1.1⟩
 have hd40:=hob.2;have HOB:=Zh hob.1;clear hob;obtain⟨xb,xo,rfl⟩:∃xb xo,A1=some ⟨xb,xo,none⟩:=by obtain⟨xb,xo,_,_,e,_⟩:=ex_cells hrd.ex.2.2 0 hx0;exact⟨xb,xo,e⟩
 have hl9:s.ex.length≤140737488355328:=by have:=hrd.ex.2.1;unfold reach at this;omega
 clear FF hlen hok;obtain⟨W0,HW0⟩:∃W0,W0=w.alloc (.cells #[vu8 s.kind,.string s.name,.string s.frm,.bool s.sec,.bool s.mt,.slice (some ⟨xb,xo,none⟩) s.ex.length c1,.slice A2 s.args.length c2,.slice A3 s.body.length c3,.slice A4 s.els.length c4] 42):=⟨_,rfl⟩;have hf0:Fr Non w W0:=by rw[HW0];exact(Zf w).alloc _
 have B0:=Zh (show W0.heap[w.heap.size]? =some (.cells #[vu8 s.kind,.string s.name,.string s.frm,.bool s.sec,.bool s.mt,.slice (some ⟨xb,xo,none⟩) s.ex.length c1,.slice A2 s.args.length c2,.slice A3 s.body.length c3,.slice A4 s.els.length c4] 42 (0,0)) by rw[HW0];exact blk_new _ _ _);have H0:=Zh (h.stay hf0);have D0:=Zh (hrd.fr hf0 fun _ _=>non _);have F0:=Zh hf0;have hwb:=(h.lt b (.inl rfl)).2;have hwk:=(h.lt bk (.inr rfl)).2;have hbb:=h.hb;have hbk:=h.hk;have HP:=Zh hP;have hoks:∀q,ok q→q<base:=hP.hok;have HOKS:=Zh hoks;have hsb:St.sizes s.body≤N:=by omega
 have hnb:a.n+St.sizes s.body≤1099511627776:=by omega
 clear h hrd hf0 hP hoks hsz;go_enter Tryz.func94,Tryz.ntmps94;go_upto_region 1 with fail;rw[←HW0];clear HW0;have s5:=(Zc B0.out).1 5 _ rfl;obtain⟨xb',xo',xA,xc,xe,x0,x1,x2,x3,x4,xr⟩:=ex_cells D0.out.ex.2.2 0 hx0;obtain⟨rfl,rfl⟩:xb=xb'∧xo=xo':=by cases xe;exact⟨rfl,rfl⟩
 clear xe;simp only[Nat.zero_mul,Nat.one_mul,Nat.add_zero] at x0 x1 x2 x3 x4;go_wp2_with fail;refine(einto_any (exAt s.ex 0) false ok xA xc base b _ ru F W0 a bk HEM0.out xr H0.out).mono ?_;rintro r w1 ⟨he,hf⟩;clear s5 x0 x1 x2 x3 x4;have H1:=Zh (H0.out.stay hf);have B1:=Zh (Zb B0.out hf (non _));have D1:=Zh (D0.out.fr hf fun _ _=>non _);have F1:=Zh (F0.out.trans hf);clear hf xr;cases hq:a.into ru (exAt s.ex 0) false with
 |false=>
  rw[hq] at he;obtain rfl:=he.f;clear he;have Q1:=Zh hq;clear hq;go_wp2_with fail;exact⟨rfl,stE_no HS.out (by rw[HLO.out,Q1.out];rfl) F1.out⟩
 |true=>
  rw[hq] at he;obtain rfl:=he.t;clear he;have Q1:=Zh hq;clear hq;have s5:=(Zc B1.out).1 5 _ rfl;obtain⟨xb',xo',xA,xc,xe,x0,x1,x2,x3,x4,xr⟩:=ex_cells D1.out.ex.2.2 1 hx1;obtain⟨rfl,rfl⟩:xb=xb'∧xo=xo':=by cases xe;exact⟨rfl,rfl⟩
  clear xe;simp only[Nat.zero_mul,Nat.one_mul,Nat.add_zero] at x0 x1 x2 x3 x4;go_wp2_with fail;refine(einto_any (exAt s.ex 1) false ok xA xc base b _ ru F w1 a bk HEM1.out xr H1.out).mono ?_;rintro r w2 ⟨he,hf⟩;clear s5 x0 x1 x2 x3 x4;have H2:=Zh (H1.out.stay hf);have B2:=Zh (Zb B1.out hf (non _));have D2:=Zh (D1.out.fr hf fun _ _=>non _);have F2:=Zh (F1.out.trans hf);clear hf xr;cases hq:a.into ru (exAt s.ex 1) false with
  |false=>
   rw[hq] at he;obtain rfl:=he.f;clear he;have Q2:=Zh hq;clear hq;go_wp2_with fail;exact⟨rfl,stE_no HS.out (by rw[HLO.out,Q1.out,Q2.out];rfl) F2.out⟩
  |true=>
   rw[hq] at he;obtain rfl:=he.t;clear he;have Q2:=Zh hq;clear hq;have s2:=(Zc B2.out).1 2 _ rfl;go_wp2_with fail;refine(ebuf_any base b _ ru F w2 a bk s.frm H2.out).mono ?_;rintro r w3 ⟨he,hf⟩;clear s2;have H3:=Zh (H2.out.stay hf);have B3:=Zh (Zb B2.out hf (non _));have D3:=Zh (D2.out.fr hf fun _ _=>non _);have F3:=Zh (F2.out.trans hf);clear hf;obtain⟨x,hx⟩:∃x,a.g s.frm=x:=⟨_,rfl⟩;rw[hx] at he HLO HS;have HX:=Zh hx;clear hx;cases hq:x.bufOk ru with
   |false=>
    rw[hq] at he;obtain rfl:=he.f;clear he;have Q3:=Zh hq;clear hq;go_wp2_with fail;exact⟨rfl,stE_no HS.out (by rw[HLO.out,Q1.out,Q2.out,Q3.out];rfl) F3.out⟩
   |true=>
    rw[hq] at he;obtain rfl:=he.t;clear he;have Q3:=Zh hq;clear hq;have hz3:w.heap.size<w3.heap.size:=blk_lt B3.out;have hzb3:=blk_lt H3.out.blk;have hzk3:=H3.out.nm.lt;obtain⟨W5,HW5⟩:∃W5,W5=(w3.alloc (.cells #[.bool x.buf,.bool x.sec,.bool x.mt,.bool x.own,.bool x.set,.bool x.gone,.int .i64 x.lent,.int .i64 x.loops] 104)).alloc (.cells #[.bool x.buf,.bool x.sec,.bool x.mt,.bool x.own,.bool x.set,.bool x.gone,.int .i64 x.lent,.int .i64 x.loops] 104):=⟨_,rfl⟩;have hf5:Fr Non w3 W5:=by rw[HW5];exact((Zf _).alloc _).alloc _
    have X5:=Zh (show W5.heap[w3.heap.size]? =some (.cells #[.bool x.buf,.bool x.sec,.bool x.mt,.bool x.own,.bool x.set,.bool x.gone,.int .i64 x.lent,.int .i64 x.loops] 104 (0,0)) by rw[HW5];exact Zb (blk_new _ _ _) ((Zf _).alloc _) (non _));have Y5:=Zh (show W5.heap[w3.heap.size+1]? =some (.cells #[.bool x.buf,.bool x.sec,.bool x.mt,.bool x.own,.bool x.set,.bool x.gone,.int .i64 x.lent,.int .i64 x.loops] 104 (0,0)) by rw[HW5];exact blk_new2 _ _ _ _);have H5:=Zh (H3.out.stay hf5);have B5:=Zh (Zb B3.out hf5 (non _));have D5:=Zh (D3.out.fr hf5 fun _ _=>non _);have F5:=Zh (F3.out.trans hf5);clear hf5;go_upto_region 5 with fail;rw[←HW5];clear HW5;obtain⟨yb,hyb⟩:∃yb,yb=w3.heap.size+1:=⟨_,rfl⟩;obtain⟨xp,hxp⟩:∃xp,xp=w3.heap.size:=⟨_,rfl⟩;rw[←hyb] at Y5 ⊢;rw[←hxp] at X5 ⊢;have hy1:w.heap.size<xp:=by omega
    have hy2:xp≠yb:=by omega
    have hy3:xp<yb:=by omega
    have hy4:w3.heap.size≤xp:=by omega
    clear hyb hxp;have x6:=(Zc X5.out).1 6 _ rfl;have y6:=(Zc Y5.out).1 6 _ rfl;have yf:=(Zc Y5.out).2;go_upto_region 6 with fail;rw[show(if x.lent<1 then(1:Int) else x.lent)=max x.lent 1 by rw[Int.max_def];split<;>split<;>omega];have hf:Fr (fun q=>q=yb) W5 (W5.setCell ⟨yb,6,none⟩ (.int .i64 (max x.lent 1))):=(Fr.refl _ _).setCell _ _ (.inl rfl);have Y6:=Zh (show(W5.setCell ⟨yb,6,none⟩ (.int .i64 (max x.lent 1))).heap[yb]? =some (.cells #[.bool x.buf,.bool x.sec,.bool x.mt,.bool x.own,.bool x.set,.bool x.gone,.int .i64 (max x.lent 1),.int .i64 x.loops] 104 (0,0)) from blk_set Y5.out 6 _);have X6:=Zh (Zb X5.out hf hy2);have H6:=Zh (H5.out.fr hf (fun k hk e=>by have e:k=yb:=e;rcases hk with rfl|rfl<;>omega));have B6:=Zh (Zb B5.out hf (by omega));have D6:=Zh (D5.out.fr hf fun q hq e=>by have e:q=yb:=e;have:=HOKS.out q hq;omega);have F6:=Zh (F5.out.then hf (S:=Non) fun k hk e=>by have e:k=yb:=e;omega);generalize W5.setCell ⟨yb,6,none⟩ (.int .i64 (max x.lent 1))=W6 at*;clear x6 y6 yf hf;have s4:=(Zc B6.out).1 4 _ rfl;have s2:=(Zc B6.out).1 2 _ rfl
    go_upto_if 29 with fail
    go_cut [] (fun wx=>wx.heap[yb]? =some (.cells #[.bool x.buf,.bool x.sec,.bool x.mt,.bool x.own,.bool x.set,.bool x.gone,.int .i64 (if s.mt then 2 else max x.lent 1),.int .i64 x.loops] 104 (0,0))∧Fr (fun k=>k=yb) W6 wx∧(!s.mt||x.turnOk ru)=true)
    case first=>
     cases hmt:s.mt with
     |false=>
      have HMT:=Zh hmt;clear hmt;go_wp2_with fail
      go_meet
      refine⟨?_,Fr.refl _ _,by rw[HMT.out];rfl⟩;rw[HMT.out];exact Y6.out
     |true=>
      have HMT:=Zh hmt;clear hmt;go_wp2_with fail;refine(eturn_any base b _ ru F W6 a bk s.frm H6.out).mono ?_;rintro r w7 ⟨he,hf⟩;rw[HX.out] at he;cases hq:x.turnOk ru with
      |false=>
       rw[hq] at he;obtain rfl:=he.f;clear he;have Q4:=Zh hq;clear hq;have F7:=Zh (F6.out.trans hf);clear hf;go_wp2_with fail;exact⟨rfl,stE_no HS.out (by rw[HLO.out,Q1.out,Q2.out,Q3.out,Q4.out,HMT.out];rfl) F7.out⟩
      |true=>
       rw[hq] at he;obtain rfl:=he.t;clear he;have Q4:=Zh hq;clear hq;have hy7:=Zb Y6.out hf (non _);have y6:=(Zc hy7).1 6 _ rfl;have yf:=(Zc hy7).2;have Y8:=Zh (show(w7.setCell ⟨yb,6,none⟩ (.int .i64 2)).heap[yb]? =some (.cells #[.bool x.buf,.bool x.sec,.bool x.mt,.bool x.own,.bool x.set,.bool x.gone,.int .i64 2,.int .i64 x.loops] 104 (0,0)) from blk_set hy7 6 _);have F8:=Zh (show Fr (fun k=>k=yb) W6 (w7.setCell ⟨yb,6,none⟩ (.int .i64 2)) from hf.non.trans ((Fr.refl _ _).setCell _ _ (.inl rfl)));clear hf hy7;go_wp2_with fail
       go_meet
       refine⟨?_,F8.out,by rw[HMT.out,Q4.out];rfl⟩;rw[HMT.out];exact Y8.out
    case rest=>
     obtain⟨hyc,hf,hq4⟩:=hcut;have Q4:=Zh hq4;clear hq4;have HS:=Zh (HS.out.trans (evif_t (by rw[HLO.out,Q1.out,Q2.out,Q3.out,Q4.out];rfl)));obtain⟨lv,hlv⟩:∃lv:Int,(if s.mt then 2 else max x.lent 1)=lv:=⟨_,rfl⟩;rw[hlv] at hyc;have HLI:=Zh (show a.lendIn s.name s.frm s.mt=(a.put s.frm {x with lent:=lv}).give s.name (Nm.bufv x.sec s.mt false) by rw[Ev.lendIn,HX.out,hlv]);clear hlv;have Y7:=Zh hyc;have X7:=Zh (Zb X6.out hf hy2);have H7:=Zh (H6.out.fr hf (fun k hk e=>by have e:k=yb:=e;rcases hk with rfl|rfl<;>omega));have B7:=Zh (Zb B6.out hf (by omega));have D7:=Zh (D6.out.fr hf fun q hq e=>by have e:q=yb:=e;have:=HOKS.out q hq;omega);have F7:=Zh (F6.out.then hf (S:=Non) fun k hk e=>by have e:k=yb:=e;omega);clear hyc hf s4 s2;have s2:=(Zc B7.out).1 2 _ rfl;have h5:=(Zc H7.out.blk).1 5 _ rfl;have y0:=(Zc Y7.out).1 0 _ rfl;have y1:=(Zc Y7.out).1 1 _ rfl;have y2:=(Zc Y7.out).1 2 _ rfl;have y3:=(Zc Y7.out).1 3 _ rfl;have y4:=(Zc Y7.out).1 4 _ rfl;have y5:=(Zc Y7.out).1 5 _ rfl;have y6:=(Zc Y7.out).1 6 _ rfl;have y7:=(Zc Y7.out).1 7 _ rfl;obtain⟨wu,hr,hu,hfu⟩:=(H7.out.stay (Zf wc).drew).upd s.frm ({x with lent:=lv}:Nm);have hzc:yb<wc.heap.size:=blk_lt Y7.out;have hfar:∀q,w.heap.size≤q→¬ES b bk q:=fun q hq hs=>by rcases hs with e|e<;>omega
     have HFAR:=Zh hfar;clear hfar;have HU:=Zh hu;clear hu;have FU:=Zh (F7.out.non.trans ((Zf wc).drew.non.trans hfu));have BU:=Zh (Zb (Zb B7.out (Zf wc).drew (non _)) hfu (HFAR.out _ (Nat.le_refl _)));have XU:=Zh (Zb (Zb X7.out (Zf wc).drew (non _)) hfu (HFAR.out _ (by omega)));have DU:=Zh (D7.out.fr ((Zf wc).drew.non.trans hfu) (H7.out.okk HOKS.out));clear hfu;unfold Nm.v at hr;go_upto_region 9 with fail
     go_still_tail 7,(by kernel_rfl)
     change wpList _ _ _ _ _ wc.drew
     go_upto_region 10 with fail;clear hr s2 h5 y0 y1 y2 y3 y4 y5 y6 y7;have s1:=(Zc BU.out).1 1 _ rfl;have s4:=(Zc BU.out).1 4 _ rfl;have x1:=(Zc XU.out).1 1 _ rfl;go_wp2_with fail;refine(egive_any base b _ ru F wu (a.put s.frm {x with lent:=lv}) bk s.name (Nm.bufv x.sec s.mt false) HU.out).mono ?_;rintro r wg ⟨rfl,hf,h⟩;rw[←HLI.out] at h;have HG:=Zh h;have hf':=hf.mono (T:=ES b bk) fun _ _ h=>.inr h;have FG:=Zh (FU.out.trans hf');have BG:=Zh (Zb BU.out hf' (HFAR.out _ (Nat.le_refl _)));have XG:=Zh (Zb XU.out hf' (HFAR.out _ (by omega)));have DG:=Zh (DU.out.fr hf' (HU.out.okk HOKS.out));have hzg:w.heap.size≤wg.heap.size:=FG.out.size;have hxg:xp<wg.heap.size:=blk_lt XG.out;clear h hf hf' s1 s4 x1;have s7:=(Zc BG.out).1 7 _ rfl;have hli1:(a.lendIn s.name s.frm s.mt).n=a.n:=rfl;have hli2:(a.lendIn s.name s.frm s.mt).loops=a.loops:=rfl;have HB1:=Zh (BK s.body (d+1) A3 c3 wg (a.lendIn s.name s.frm s.mt) bk hsb HOB.out DG.out.body.2.2 DG.out.body.2.1 (by omega) (by omega) (by omega) (by omega) HG.out (HP.out.fr FG.out (H3.out.okk HOKS.out)));go_wp2_with fail;refine HB1.out.mono ?_;intro e w4 hst;clear s7 hli1 hli2;cases hbd:evBlock ru P F s.body (a.lendIn s.name s.frm s.mt) with
     |error n=>
      rw[hbd] at hst;obtain⟨rfl,hf⟩:=hst;have HR:=Zh (show evStmt ru P F s a= .error n by rw[HS.out,hbd]);clear hbd;have F4:=Zh (FG.out.trans hf);clear hf;go_wp2_with fail;exact⟨rfl,stE_err HR.out F4.out⟩
     |ok a1=>
      rw[hbd] at hst;obtain⟨bk1,rfl,hf,h4,hb4⟩:=hst;have HR:=Zh (show evStmt ru P F s a= .ok (a1.lendOut s.name s.frm x.lent) by rw[HS.out,hbd]);clear hbd;have B4:=Zh (Zb BG.out hf (HFAR.out _ (Nat.le_refl _)));have X4:=Zh (Zb XG.out hf (HFAR.out _ (by omega)));have F4:=Zh (FG.out.trans hf);have hz4:wg.heap.size≤w4.heap.size:=hf.size;have H4:=Zh h4;have hbk1:bk1=bk∨w.heap.size≤bk1:=by omega
      have hbx:bk1≠xp∧bk1≠w.heap.size:=by omega
      have HBK1:=Zh hbk1;clear hf h4 hb4 hbk1;have b5:=(Zc H4.out.blk).1 5 _ rfl;have s1:=(Zc B4.out).1 1 _ rfl;obtain⟨w6,hr,h6,hf6⟩:=(H4.out.stay (Zf w4).drew).rm s.name 0;have hfd:=(Zf w4).drew.non.trans hf6;have H6':=Zh h6;clear h6 hf6;have F6':=Zh (es_then F4.out HBK1.out hfd);have B6':=Zh (Zb B4.out hfd (by rintro(e|e)<;>omega));have X6':=Zh (Zb X4.out hfd (by rintro(e|e)<;>omega));clear hfd;go_upto_region 12 with fail
      go_still_tail 6,(by kernel_rfl)
      change wpList _ _ _ _ _ w4.drew
      refine wp_delete_run rfl (.tmp 58) (.tmp 60) rfl rfl rfl hr ?_
      go_frame
      clear hr b5 s1;go_upto_region 13 with fail;have b5:=(Zc H6'.out.blk).1 5 _ rfl;have s2:=(Zc B6'.out).1 2 _ rfl;obtain⟨y,hy⟩:∃y,(a1.del s.name).g s.frm=y:=⟨_,rfl⟩;have HLO2:=Zh (show a1.lendOut s.name s.frm x.lent=(a1.del s.name).put s.frm {y with lent:=x.lent} by rw[Ev.lendOut,hy]);have hl0:=(H6'.out.stay (Zf w6).drew).look s.frm;have hl1':=fun o=>(H6'.out.stay (((Zf w6).alloc o).drew)).look s.frm;rw[hy] at hl0;simp only[hy] at hl1';clear hy;unfold Nm.v at hl0 hl1';have hlt6:b<w6.heap.size:=blk_lt H6'.out.blk;have hlt7:w.heap.size<w6.heap.size:=blk_lt B6'.out
      go_cut [6] (fun v6 wx=>∃bn,v6= .pointer (some ⟨bn,0,none⟩)∧w6.heap.size≤bn∧wx.heap[bn]? =some (.cells #[.bool y.buf,.bool y.sec,.bool y.mt,.bool y.own,.bool y.set,.bool y.gone,.int .i64 y.lent,.int .i64 y.loops] 104 (0,0))∧Fr Non w6 wx)
      case first=>
       go_region
       all_goals
        go_wp2_with fail
        go_meet
        exact⟨_,rfl,Nat.le_refl _,blk_new _ _ _,((Zf _).alloc _).drew⟩
      case rest=>
       obtain⟨bn,rfl,hbn,hb7,hf7⟩:=hcut;clear hl0 hl1' b5 s2;have H7':=Zh (H6'.out.stay hf7);have B7':=Zh (Zb B6'.out hf7 (non _));have X7':=Zh (Zb X6'.out hf7 (non _));have F7':=Zh (F6'.out.trans hf7.non);have hx7:=blk_lt X6'.out;have hk7:=H6'.out.nm.lt;have Y7':=Zh hb7;clear hf7 hb7;have x6:=(Zc X7'.out).1 6 _ rfl;have y6:=(Zc Y7'.out).1 6 _ rfl;have yf:=(Zc Y7'.out).2;have hf8:Fr (fun q=>q=bn) wc (wc.setCell ⟨bn,6,none⟩ (.int .i64 x.lent)):=(Fr.refl _ _).setCell _ _ (.inl rfl);have Y8':=Zh (show(wc.setCell ⟨bn,6,none⟩ (.int .i64 x.lent)).heap[bn]? =some (.cells #[.bool y.buf,.bool y.sec,.bool y.mt,.bool y.own,.bool y.set,.bool y.gone,.int .i64 x.lent,.int .i64 y.loops] 104 (0,0)) from blk_set Y7'.out 6 _);have H8':=Zh (H7'.out.fr hf8 (fun k hk e=>by have e:k=bn:=e;rcases hk with rfl|rfl<;>omega));have B8':=Zh (Zb B7'.out hf8 (by omega));have F8':=Zh (F7'.out.then hf8 fun k hk e=>by have e:k=bn:=e;omega);clear hf8;go_upto_region 15 with fail;generalize wc.setCell ⟨bn,6,none⟩ (.int .i64 x.lent)=w8 at*;clear x6 y6 yf;have h5:=(Zc H8'.out.blk).1 5 _ rfl;have s2:=(Zc B8'.out).1 2 _ rfl;have y0:=(Zc Y8'.out).1 0 _ rfl;have y1:=(Zc Y8'.out).1 1 _ rfl;have y2:=(Zc Y8'.out).1 2 _ rfl;have y3:=(Zc Y8'.out).1 3 _ rfl;have y4:=(Zc Y8'.out).1 4 _ rfl;have y5:=(Zc Y8'.out).1 5 _ rfl;have y6:=(Zc Y8'.out).1 6 _ rfl;have y7:=(Zc Y8'.out).1 7 _ rfl;obtain⟨wz,hr,hu,hfu⟩:=(H8'.out.stay (Zf w8).drew).upd s.frm ({y with lent:=x.lent}:Nm);have HZ:=Zh hu;have FZ:=Zh (es_then F8'.out HBK1.out ((Zf w8).drew.non.trans hfu));clear hu hfu;unfold Nm.v at hr
       go_still_tail 7,(by kernel_rfl)
       change wpList _ _ _ _ _ w8.drew
       go_wp2_with fail
       go_end0
       rw[HR.out,HLO2.out];exact⟨bk1,rfl,FZ.out,HZ.out,HBK1.out⟩
end Go.Proofs.YtpkpgmnbheenbaaGreatDoor
