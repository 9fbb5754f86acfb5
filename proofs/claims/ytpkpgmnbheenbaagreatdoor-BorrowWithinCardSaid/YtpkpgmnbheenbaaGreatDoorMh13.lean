/- Contracts and laws, Mh13 -/
import Derived.Test.YtpkpgmnbheenbaaGreatDoorMh01
import Derived.Test.YtpkpgmnbheenbaaGreatDoorMh12
import Derived.Deep.DeepCutAuto
import Derived.Deep.CutBlock
import Derived.Deep.RegionLaw
namespace Go.Proofs.YtpkpgmnbheenbaaGreatDoor
open Go.RowKit
set_option linter.unusedVariables false
set_option linter.unusedSimpArgs false
set_option maxHeartbeats 8000000
set_option maxRecDepth 100000
def exsQ (ts:List Tk):Nat→List Ex→Nat→Option (List Ex×Nat)
 |0,_,_=>none
 |g+1,l,i=>if i<ts.length then
   (if tkK ts 4 gSem i=true then some (l,i+1)
    else if l.length=0 then(exprQ ts 50 1 i).bind fun p=>exsQ ts g (l++[p.1]) p.2
    else if l.length<8∧tkK ts 4 gCom i=true then(exprQ ts 50 1 (i+1)).bind fun p=>exsQ ts g (l++[p.1]) p.2
    else none)
  else none
def nmsQ (ts:List Tk):Nat→List ByteArray→Nat→Option (List ByteArray×Nat)
 |0,_,_=>none
 |g+1,l,i=>if i<ts.length then
   (if tkK ts 4 gUnpar i=true then some (l,i+1)
    else if l.length=0 then(if nmT (ts.getD i Tk.zero)=true then nmsQ ts g (l++[(ts.getD i Tk.zero).text]) (i+1) else none)
    else if l.length<8∧tkK ts 4 gCom i=true∧i+1<ts.length∧nmT (ts.getD (i+1) Tk.zero)=true then nmsQ ts g (l++[(ts.getD (i+1) Tk.zero).text]) (i+1+1)
    else none)
  else none
def calledQ (ts:List Tk) (i:Nat):Option (St×Nat):=
 if i<ts.length∧nmT (ts.getD i Tk.zero)=true∧i+1<ts.length∧tkK ts 4 gEq (i+1)=false∧tkK ts 4 gPar (i+1)=true then
  (exsQ ts 20 [] (i+1+1)).bind fun x=>(nmsQ ts 20 [] x.2).bind fun m=>if m.2<ts.length∧tkK ts 4 gSem m.2=true then some (.mk 11 ⟨#[]⟩ (ts.getD i Tk.zero).text false false x.1 m.1 [] [],m.2+1) else none
 else none
def cellLen (q i:Nat) (w:World):Nat:=match w.cell? ⟨q,i,none⟩ with
 |some (.slice _ n _)=>n
 |_=>0
theorem cellLen_at {q i:Nat} {w:World} {A:Option Addr} {n c:Nat} (h:w.cell? ⟨q,i,none⟩=some (.slice A n c)):cellLen q i w=n:=by simp[cellLen,h]
theorem chunk_str {ok:Nat→Prop} {w:World} (y:ByteArray):Chunks ok w 1 [strD y] [.string y]:=⟨_,[],rfl,rfl,rfl,⟨_,_,rfl,rfl,rfl⟩,rfl⟩
theorem step_str {ops:Array Oper} {o:Oper} {a:Act} {K:Act→World→Prop} {Q:Exit→Act→World→Prop} {E:Prop} {w:World} (hgd:o.guard=none) (s x:Operand)
  (ho:o.op= .call {callee:=.builtin .append,args:=#[s,x],argTypes:=#[39,39]})
  (base:Nat) (v:Value) (l:List ByteArray) (y:ByteArray) (hs:a.eval s=v) (hown:Own base 9 1 w v (l.map strD)) (hw1:base≤w.heap.size)
  (hx:a.eval x= .slice (some ⟨w.heap.size,0,none⟩) 1 1) (hn:l.length≤1000) (n1:Nat) (hn1:l.length+1=n1)
  (h:∀A7 c7 w7,n1≤c7→Own base 9 1 w7 (.slice A7 n1 c7) ((l++[y]).map strD)→Fr (fun k=>base≤k∧v.ownBlock=some k) w w7→K (a.put o.dst (.slice A7 n1 c7)) w7):
  if Region.wanted o (yielded ops a.tmps)=true then Oper.wp Tryz.prog o a (w.alloc (.cells #[.string y] 9)) K Q else E:=by
 subst hn1;have hfa:Fr Non w (w.alloc (.cells #[.string y] 9)):=(Zf w).alloc _;have hlen:(l.map strD).length=l.length:=List.length_map _;refine step_own (z:=.string ⟨#[]⟩) (size:=1) (bytes:=16) (by kernel_rfl) (by kernel_rfl) rfl (by decide) (by decide) hgd s x ho base v (l.map strD) hs (hown.fr hfa fun _ _=>non _) ⟨w.heap.size,0,none⟩ 1 hx (strD y) [.string y]
  (chunk_str y) (new_cells' rfl) (by intro u hu;simp at hu;subst hu;rfl) (by rw[hlen];exact hn) (by simp;omega) ?_
 intro A7 c7 w7 hc hO hf;rw[hlen] at hc hO ⊢;exact h A7 c7 w7 hc (by rw[List.map_append];exact hO) ((hfa.mono (T:=fun k=>base≤k∧v.ownBlock=some k) fun _ _ h=>h.elim).trans hf)
theorem qcalled_any (ok:Nat→Prop) (ts:List Tk) (A:Option Addr) (c be bp:Nat) (w:World) (i n:Nat) (x:St) (j:Nat) (h:PsAt ok ts A c be bp w i n) (hx:calledQ ts i=some (x,j)) (hok:∀q,ok q→q<w.heap.size):
  Calls Tryz.prog 188 #[.pointer (some ⟨bp,0,none⟩)] w fun e w'=>∃A1 A2 A3 A4 c1 c2 c3 c4,e= .returned (stV x A1 A2 A3 A4 c1 c2 c3 c4)∧Fr (PS be bp) w w'∧PsAt ok ts A c be bp w' j n∧StRd (New w.heap.size w') w' x A1 A2 A3 A4 c1 c2 c3 c4:=by
 rw[calledQ] at hx;split at hx
 case isFalse=>cases hx
 case isTrue hc=>
 obtain⟨hi,hnm,hi1,heq,t1⟩:=hc;rw[getD_at hi] at hnm hx;cases he:exsQ ts 20 [] (i+1+1) with
 |none=>rw[he] at hx;cases hx
 |some r=>
 obtain⟨xl,i3⟩:=r;rw[he,Option.bind_some] at hx;cases hm:nmsQ ts 20 [] i3 with
 |none=>simp only[hm] at hx;cases hx
 |some r=>
 obtain⟨ml,i4⟩:=r;simp only[hm,Option.bind_some] at hx;split at hx
 case isFalse=>cases hx
 case isTrue hc2=>
 obtain⟨hi4,t2⟩:=hc2;obtain⟨nm,hnq⟩:∃nm,ts[i].text=nm:=⟨_,rfl⟩;rw[hnq] at hx;simp only[Option.some.injEq,Prod.mk.injEq] at hx;obtain⟨rfl,rfl⟩:=hx;obtain⟨W1,HW1⟩:∃W1,W1=w.alloc (.cells #[.int .u8 0,.string ⟨#[]⟩,.string ⟨#[]⟩,.bool false,.bool false,.slice none 0 0,.slice none 0 0,.slice none 0 0,.slice none 0 0] 42):=⟨_,rfl⟩;have hf1:Fr Non w W1:=by rw[HW1];exact(Zf w).alloc _
 have hb1:W1.heap[w.heap.size]? =some (.cells #[.int .u8 0,.string ⟨#[]⟩,.string ⟨#[]⟩,.bool false,.bool false,.slice none 0 0,.slice none 0 0,.slice none 0 0,.slice none 0 0] 42 (0,0)):=by rw[HW1];exact blk_new _ _ _
 have hbe:=blk_lt h.eye.blk;have hbp:=blk_lt h.blk;have H1:=Zh (h.stay hf1);clear h;have HF1:=Zh hf1;clear hf1;have HB1:=Zh hb1;clear hb1;have HNM:=Zh hnm;have HEQ:=Zh heq;have T1:=Zh t1;have T2:=Zh t2;have HE:=Zh he;have HM:=Zh hm;have HNQ:=Zh hnq;have HOK:=Zh hok
 clear hnm heq t1 t2 he hm hnq hok;have p0:=(Zc H1.out.blk).1 0 _ rfl;go_enter Tryz.func188,Tryz.ntmps188;go_upto_region 1 with fail;rw[←HW1];clear HW1;go_wp2_with fail;refine(ename_any ok ts A c be W1 i H1.out.eye hi HNM.out).mono ?_;rintro e w2 ⟨rfl,hf2,h2⟩;rw[HNQ.out];have hb2:=Zb HB1.out hf2 (by omega);have H2:=Zh (H1.out.moved hf2 h2);have HF2:=Zh (HF1.out.non.trans (eye_ps (bp:=bp) hf2));clear hf2 h2 p0;have p0:=(Zc H2.out.blk).1 0 _ rfl;have HB2:=Zh hb2;clear hb2;obtain⟨W3,HW3⟩:∃W3,W3=w2.alloc (.cells #[.int .u8 11,.string ⟨#[]⟩,.string nm,.bool false,.bool false,.slice none 0 0,.slice none 0 0,.slice none 0 0,.slice none 0 0] 42):=⟨_,rfl⟩;have hf3:Fr Non w2 W3:=by rw[HW3];exact(Zf _).alloc _
 have hb3:W3.heap[w2.heap.size]? =some (.cells #[.int .u8 11,.string ⟨#[]⟩,.string nm,.bool false,.bool false,.slice none 0 0,.slice none 0 0,.slice none 0 0,.slice none 0 0] 42 (0,0)):=by rw[HW3];exact blk_new _ _ _
 have hB3:W3.heap.size=w2.heap.size+1:=by rw[HW3];simp
 have hz2:w.heap.size<w2.heap.size:=blk_lt HB2.out;have H3:=Zh (H2.out.stay hf3);have HB3:=Zh hb3;clear hb3;have HR3:=Zh (Zb HB2.out hf3 (non _));have HF3:=Zh (HF2.out.trans hf3.non);clear hf3;go_upto_region 2 with fail;rw[←HW3];clear HW3 p0;have p0:=(Zc H3.out.blk).1 0 _ rfl;go_wp2_with fail;refine(esign_any ok ts A c be W3 (i+1) ⟨#[61]⟩ H3.out.eye hi1).mono ?_;rintro e w4 ⟨rfl,hf4,h4⟩;rw[show tkK ts 4 ⟨#[61]⟩ (i+1)=false from HEQ.out];rw[eyeI_f (show tkK ts 4 ⟨#[61]⟩ (i+1)=false from HEQ.out)] at h4;have H4:=Zh (H3.out.moved hf4 h4);have HB4:=Zh (Zb HB3.out hf4 (by omega));have HR4:=Zh (Zb HR3.out hf4 (by omega));have HF4:=Zh (HF3.out.trans (eye_ps (bp:=bp) hf4));have hz4:W3.heap.size≤w4.heap.size:=hf4.size;clear hf4 h4 p0;have p0:=(Zc H4.out.blk).1 0 _ rfl;go_wp2_with fail;refine(need_any ok ts A c be w4 (i+1) ⟨#[40]⟩ H4.out.eye hi1 T1.out).mono ?_;rintro e w5 ⟨rfl,hf5,h5⟩;have H5:=Zh (H4.out.moved hf5 h5);have HB5:=Zh (Zb HB4.out hf5 (by omega));have HR5:=Zh (Zb HR4.out hf5 (by omega));have HF5:=Zh (HF4.out.trans (eye_ps (bp:=bp) hf5));have hz5:W3.heap.size≤w5.heap.size:=Nat.le_trans hz4 hf5.size;clear hf5 h5 p0;go_wp2_with fail
 go_loopw [] (fun wz=>∃(g1:Nat) (pq:List Ex) (i1:Nat) (A1:Option Addr) (c1:Nat),exsQ ts g1 pq i1=some (xl,i3)∧pq.length≤8∧pq.length≤c1∧PsAt ok ts A c be bp wz i1 n∧wz.heap[w2.heap.size]? =some (.cells #[.int .u8 11,.string ⟨#[]⟩,.string nm,.bool false,.bool false,.slice A1 pq.length c1,.slice none 0 0,.slice none 0 0,.slice none 0 0] 42 (0,0))∧wz.heap[w.heap.size]? =some (.cells #[.int .u8 0,.string ⟨#[]⟩,.string ⟨#[]⟩,.bool false,.bool false,.slice none 0 0,.slice none 0 0,.slice none 0 0,.slice none 0 0] 42 (0,0))∧Own W3.heap.size 48 5 wz (.slice A1 pq.length c1) (Ex.ds pq)∧Fr (PS be bp) w wz∧W3.heap.size≤wz.heap.size) (fun wz=>9-cellLen w2.heap.size 5 wz)
 case atStart=>exact⟨20,[],_,none,0,HE.out,by simp,by simp,H5.out,HB5.out,HR5.out,Own.nil _ _ _ _,HF5.out,hz5⟩
 case round=>
  obtain⟨g1,pq,i1,A1,c1,hq,hl8,hlc,hps,hS,hR,hO,hF,hz⟩:=hrel;obtain⟨woa,rfl⟩:∃wo:World,wo=wr:=⟨_,rfl⟩;have G5:=Zh hps;have B5:=Zh hS;have R5:=Zh hR;have O5:=Zh hO;have F5:=Zh hF
  clear hps hS hR hO hF;cases g1 with
  |zero=>rw[exsQ] at hq;cases hq
  |succ g1=>
  rw[exsQ] at hq;split at hq
  case isFalse=>cases hq
  case isTrue hi5=>
  go_wp2_with fail;refine(pfine_any ok ts A c be bp woa i1 n G5.out).mono ?_;rintro e wq ⟨rfl,rfl⟩;have p0:=(Zc G5.out.blk).1 0 _ rfl;go_wp2_with fail;refine(esign_any ok ts A c be woa i1 ⟨#[59]⟩ G5.out.eye hi5).mono ?_;rintro e w6a ⟨rfl,hf1,h⟩;have hf:=eye_ps (bp:=bp) hf1;have B6:=Zh (Zb B5.out hf (ps_far hbe hbp (by omega)));have R6:=Zh (Zb R5.out hf (ps_far hbe hbp (by omega)));have F6:=Zh (F5.out.trans hf);have O6:=Zh (O5.out.fr hf (fun k hk=>ps_far hbe hbp (by omega)));have hz6a:W3.heap.size≤w6a.heap.size:=Nat.le_trans hz hf.size;cases tu:tkK ts 4 gSem i1 with
  |true=>
   rw[tu,if_pos rfl] at hq;simp only[Option.some.injEq,Prod.mk.injEq] at hq;obtain⟨rfl,rfl⟩:=hq;rw[show tkK ts 4 ⟨#[59]⟩ i1=true from tu];rw[eyeI_t (show tkK ts 4 ⟨#[59]⟩ i1=true from tu)] at h;have G6:=Zh (G5.out.moved hf1 h);clear hf hf1 h p0 tu O5;obtain⟨xl,rfl⟩:∃x:List Ex,x=pq:=⟨_,rfl⟩;obtain⟨A5,rfl⟩:∃x:Option Addr,x=A1:=⟨_,rfl⟩;obtain⟨c5,rfl⟩:∃x:Nat,x=c1:=⟨_,rfl⟩;have X6:=Zh O6.out.rows;have HL5:=Zh hl8;have HC5:=Zh hlc
   have hz5b:w6a.heap.size≤w6a.heap.size:=Nat.le_refl _;clear hl8 hlc O6;go_wp2_with fail
   go_loopw [] (fun wz=>∃(g1:Nat) (pq:List ByteArray) (i1:Nat) (A1:Option Addr) (c1:Nat),nmsQ ts g1 pq i1=some (ml,i4)∧pq.length≤8∧pq.length≤c1∧PsAt ok ts A c be bp wz i1 n∧wz.heap[w2.heap.size]? =some (.cells #[.int .u8 11,.string ⟨#[]⟩,.string nm,.bool false,.bool false,.slice A5 xl.length c5,.slice A1 pq.length c1,.slice none 0 0,.slice none 0 0] 42 (0,0))∧wz.heap[w.heap.size]? =some (.cells #[.int .u8 0,.string ⟨#[]⟩,.string ⟨#[]⟩,.bool false,.bool false,.slice none 0 0,.slice none 0 0,.slice none 0 0,.slice none 0 0] 42 (0,0))∧Own w6a.heap.size 9 1 wz (.slice A1 pq.length c1) (pq.map strD)∧Fr (PS be bp) w wz∧w6a.heap.size≤wz.heap.size∧RdRows (New W3.heap.size w6a) wz 5 A5 0 (Ex.ds xl)) (fun wz=>9-cellLen w2.heap.size 6 wz)
   case atStart=>exact⟨20,[],_,none,0,HM.out,by simp,by simp,G6.out,B6.out,R6.out,Own.nil _ _ _ _,F6.out,hz5b,X6.out⟩
   case round=>
    obtain⟨g1,pq,i1,A1,c1,hq,hl8,hlc,hps,hS,hR,hO,hF,hz,hX⟩:=hrel;obtain⟨wob,rfl⟩:∃wo:World,wo=wr:=⟨_,rfl⟩;have G5:=Zh hps;have B5:=Zh hS;have R5:=Zh hR;have O5:=Zh hO;have F5:=Zh hF;have X5:=Zh hX
    clear hps hS hR hO hF hX;cases g1 with
    |zero=>rw[nmsQ] at hq;cases hq
    |succ g1=>
    rw[nmsQ] at hq;split at hq
    case isFalse=>cases hq
    case isTrue hi5=>
    go_wp2_with fail;refine(pfine_any ok ts A c be bp wob i1 n G5.out).mono ?_;rintro e wq ⟨rfl,rfl⟩;have p0:=(Zc G5.out.blk).1 0 _ rfl;go_wp2_with fail;refine(esign_any ok ts A c be wob i1 ⟨#[41]⟩ G5.out.eye hi5).mono ?_;rintro e w6b ⟨rfl,hf1,h⟩;have hf:=eye_ps (bp:=bp) hf1;have B6:=Zh (Zb B5.out hf (ps_far hbe hbp (by omega)));have R6:=Zh (Zb R5.out hf (ps_far hbe hbp (by omega)));have F6:=Zh (F5.out.trans hf);have O6:=Zh (O5.out.fr hf (fun k hk=>ps_far hbe hbp (by omega)));have X6:=Zh (X5.out.fr hf (fun q hq=>ps_far hbe hbp (by have:=hq.1;omega)) fun _ h=>h);have hz6b:w6a.heap.size≤w6b.heap.size:=Nat.le_trans hz hf.size;cases tu:tkK ts 4 gUnpar i1 with
    |true=>
     rw[tu,if_pos rfl] at hq;simp only[Option.some.injEq,Prod.mk.injEq] at hq;obtain⟨rfl,rfl⟩:=hq;rw[show tkK ts 4 ⟨#[41]⟩ i1=true from tu];rw[eyeI_t (show tkK ts 4 ⟨#[41]⟩ i1=true from tu)] at h;have G6:=Zh (G5.out.moved hf1 h);clear hf hf1 h p0 tu O5;obtain⟨ml,rfl⟩:∃x:List ByteArray,x=pq:=⟨_,rfl⟩;have p0:=(Zc G6.out.blk).1 0 _ rfl;go_wp2_with fail;refine(need_any ok ts A c be w6b (i1+1) ⟨#[59]⟩ G6.out.eye hi4 T2.out).mono ?_;rintro e w9 ⟨rfl,hf9,h9⟩;have hf:=eye_ps (bp:=bp) hf9;have H9:=Zh (G6.out.moved hf9 h9);have B9:=Zh (Zb B6.out hf (ps_far hbe hbp (by omega)));have R9:=Zh (Zb R6.out hf (ps_far hbe hbp (by omega)));have F9:=Zh (F6.out.trans hf);have O9:=Zh (O6.out.fr hf (fun k hk=>ps_far hbe hbp (by omega)));have X9:=Zh (X6.out.fr hf (fun q hq=>ps_far hbe hbp (by have:=hq.1;omega)) fun _ h=>h);have hz9:w6a.heap.size≤w9.heap.size:=Nat.le_trans hz6b hf.size;clear hf hf9 h9 p0;have l0:=(Zc B9.out).1 0 _ rfl;have l1:=(Zc B9.out).1 1 _ rfl;have l2:=(Zc B9.out).1 2 _ rfl;have l3:=(Zc B9.out).1 3 _ rfl;have l4:=(Zc B9.out).1 4 _ rfl;have l5:=(Zc B9.out).1 5 _ rfl;have l6:=(Zc B9.out).1 6 _ rfl;have l7:=(Zc B9.out).1 7 _ rfl;have l8:=(Zc B9.out).1 8 _ rfl;have r0:=(Zc R9.out).1 0 _ rfl;have r1:=(Zc R9.out).1 1 _ rfl;have r2:=(Zc R9.out).1 2 _ rfl;have r3:=(Zc R9.out).1 3 _ rfl;have r4:=(Zc R9.out).1 4 _ rfl;have r5:=(Zc R9.out).1 5 _ rfl;have r6:=(Zc R9.out).1 6 _ rfl;have r7:=(Zc R9.out).1 7 _ rfl;have r8:=(Zc R9.out).1 8 _ rfl;have rf:=(Zc R9.out).2;go_wp2_with fail;clear l0 l1 l2 l3 l4 l5 l6 l7 l8 r0 r1 r2 r3 r4 r5 r6 r7 r8 rf;have HZ:=Zh (blk_put9 R9.out (.int .u8 11) (.string ⟨#[]⟩) (.string nm) (.bool false) (.bool false) (.slice A5 xl.length c5) (.slice A1 ml.length c1) (.slice none 0 0) (.slice none 0 0));have HFZ:=Zh (fr_put9 (g:=w.heap.size) (w:=w9) (S:=fun q=>q=w.heap.size) rfl (.int .u8 11) (.string ⟨#[]⟩) (.string nm) (.bool false) (.bool false) (.slice A5 xl.length c5) (.slice A1 ml.length c1) (.slice none 0 0) (.slice none 0 0));generalize (((((((((w9.setCell ⟨w.heap.size,0,none⟩ (.int .u8 11)).setCell ⟨w.heap.size,1,none⟩ (.string ⟨#[]⟩)).setCell ⟨w.heap.size,2,none⟩ (.string nm)).setCell ⟨w.heap.size,3,none⟩ (.bool false)).setCell ⟨w.heap.size,4,none⟩ (.bool false)).setCell ⟨w.heap.size,5,none⟩ (.slice A5 xl.length c5)).setCell ⟨w.heap.size,6,none⟩ (.slice A1 ml.length c1)).setCell ⟨w.heap.size,7,none⟩ (.slice none 0 0)).setCell ⟨w.heap.size,8,none⟩ (.slice none 0 0))=wz at*;have f0:=(Zc HZ.out).1 0 _ rfl;have f1:=(Zc HZ.out).1 1 _ rfl;have f2:=(Zc HZ.out).1 2 _ rfl;have f3:=(Zc HZ.out).1 3 _ rfl;have f4:=(Zc HZ.out).1 4 _ rfl;have f5:=(Zc HZ.out).1 5 _ rfl;have f6:=(Zc HZ.out).1 6 _ rfl;have f7:=(Zc HZ.out).1 7 _ rfl;have f8:=(Zc HZ.out).1 8 _ rfl;refine bodyPost_ret (v:=stV (.mk 11 ⟨#[]⟩ nm false false xl ml [] []) A5 A1 none none c5 c1 0 0) (by simp[results,Tryz.results188,go_sem,f0,f1,f2,f3,f4,f5,f6,f7,f8,stV,St.kind,St.name,St.frm,St.sec,St.mt,St.ex,St.args,St.body,St.els]) rfl ⟨A5,A1,none,none,c5,c1,0,0,rfl,F9.out.then HFZ.out (fun k hk e=>by have e:k=w.heap.size:=e;omega),H9.out.away HFZ.out (by omega) (by omega) (fun q hq e=>by have e:q=w.heap.size:=e;have:=HOK.out q hq;omega),?_⟩;exact⟨⟨HC5.out,(by have:=HL5.out;show xl.length*64≤reach;unfold reach;omega),X9.out.fr HFZ.out (fun q hq e=>by have e:q=w.heap.size:=e;have:=hq.1;omega) fun q hq=>⟨by have:=hq.1;omega,by have:=hq.2;have:=HFZ.out.size;omega⟩⟩,⟨hlc,(by show ml.length*16≤reach;unfold reach;omega),O9.out.rows.fr HFZ.out (fun q hq e=>by have e:q=w.heap.size:=e;have:=hq.1;omega) fun q hq=>⟨by have:=hq.1;omega,by have:=hq.2;have:=HFZ.out.size;omega⟩⟩,⟨Nat.zero_le _,(by decide:0*144≤reach),trivial⟩,⟨Nat.zero_le _,(by decide:0*144≤reach),trivial⟩⟩
    |false=>
     rw[tu,if_neg Bool.false_ne_true] at hq;rw[show tkK ts 4 ⟨#[41]⟩ i1=false from tu];rw[eyeI_f (show tkK ts 4 ⟨#[41]⟩ i1=false from tu)] at h;have G6:=Zh (G5.out.moved hf1 h);clear hf hf1 h p0 tu O5;have s1:=(Zc B6.out).1 6 _ rfl;by_cases h0:pq.length=0
     ·rw[if_pos h0] at hq;split at hq
      case isFalse=>cases hq
      case isTrue hp=>
      rw[getD_at hi5] at hq hp;obtain⟨y,hy⟩:∃y,ts[i1].text=y:=⟨_,rfl⟩;rw[hy] at hq;obtain⟨k5,hk5⟩:∃k5,i1+1=k5:=⟨_,rfl⟩;rw[hk5] at hq;subst hk5;have HP:=Zh hp;have HQ:=Zh hq;have HY:=Zh hy;clear hp hq hy
      have hneg:¬0<pq.length:=by omega
      have hne8:((pq.length:Int)==8)=false:=by rw[beq_eq_false_iff_ne];omega
      clear h0;go_upto_region 13 with fail;have s1:=(Zc B6.out).1 6 _ rfl;have sf:=(Zc B6.out).2;have p0:=(Zc G6.out.blk).1 0 _ rfl;have HCE:=Zh (ename_any ok ts A c be w6b.drew (i1) (G6.out.stay (Zf w6b).drew).eye hi5 HP.out);rw[HY.out] at HCE;go_upto_region 17 with fail
      go_region_law (first|(refine step_str rfl (.tmp 96) (.tmp 102) rfl w6a.heap.size (.slice A1 pq.length c1) pq y rfl O8 hw8 rfl (by omega) (pq.length+1) rfl ?_;intro A7 c7 w9 hc7 hown7 hf7;have hb7:=Zb hb8 hf7 (fun e=>by have:=e.1;omega);have s1:=(Zc hb7).1 6 _ rfl;have sf:=(Zc hb7).2)|(go_simp;go_at_call 160;refine HCE.out.mono ?_;rintro e w8 ⟨rfl,hf8,h8⟩;have hb8:=(Zb (Zb B6.out (Zf w6b).drew (non _)) hf8 (by omega));have s1:=(Zc hb8).1 6 _ rfl;have sf:=(Zc hb8).2;have s1a:=((Zf w8).alloc (.cells #[.string y] 9)).cell' s1 (non _);have O8:=(O6.out.fr (Zf w6b).drew (fun _ _=>non _)).fr hf8 (fun k hk e=>by have e:k=be:=e;omega);have hw6:w6b.heap.size≤w8.heap.size:=hf8.size;have hw8:w6a.heap.size≤w8.heap.size:=Nat.le_trans hz6b hf8.size))
      all_goals
       have hb9:=blk_set hb7 6 (.slice A7 (pq.length+1) c7);have hf9:Fr (fun q=>q=w2.heap.size∨w6a.heap.size≤q) w8 (w9.setCell ⟨w2.heap.size,6,none⟩ (.slice A7 (pq.length+1) c7)):=(hf7.mono fun _ _ h=>.inr h.1).setCell _ _ (.inl (.inl rfl));have hfo:Fr (fun q=>q=be∨q=w2.heap.size∨(w6a.heap.size≤q∧(Value.slice A1 pq.length c1).ownBlock=some q)) w6b (w9.setCell ⟨w2.heap.size,6,none⟩ (.slice A7 (pq.length+1) c7)):=((((Zf w6b).drew.non.trans hf8).mono fun _ _ h=>.inl h).trans (hf7.mono fun _ _ h=>.inr (.inr h))).setCell _ _ (.inl (.inr (.inl rfl)));have HZ9:=Zh (((G6.out.stay (Zf w6b).drew).moved hf8 h8).away hf9 (by omega) (by omega) (fun q hq e=>by have:=HOK.out q hq;omega));have RR:=Zh (Zb (Zb (Zb R6.out (Zf w6b).drew (non _)) hf8 (by omega)) hf9 (by omega));have OO:=Zh (hown7.fr ((Fr.refl (fun q=>q=w2.heap.size) w9).setCell ⟨w2.heap.size,6,none⟩ (.slice A7 (pq.length+1) c7) (.inl rfl)) (fun k hk e=>by have e:k=w2.heap.size:=e;omega));have FF:=Zh (((F6.out.trans (Zf w6b).drew.non).trans (eye_ps (bp:=bp) hf8)).then hf9 (fun k hk e=>by omega));have hzz:w6a.heap.size≤(w9.setCell ⟨w2.heap.size,6,none⟩ (.slice A7 (pq.length+1) c7)).heap.size:=Nat.le_trans hw8 hf9.size;have BB:=Zh (show(w9.setCell ⟨w2.heap.size,6,none⟩ (.slice A7 (pq.length+1) c7)).heap[w2.heap.size]? =some (.cells #[.int .u8 11,.string ⟨#[]⟩,.string nm,.bool false,.bool false,.slice A5 xl.length c5,.slice A7 (pq.length+1) c7,.slice none 0 0,.slice none 0 0] 42 (0,0)) from hb9);have hx1:=cellLen_at ((Zc B5.out).1 6 _ rfl);have hx2:=cellLen_at ((Zc BB.out).1 6 _ rfl);have XX:=Zh (X6.out.fr hfo (fun q hq e=>by
        have h1:=hq.1;have h2:=hq.2;rcases e with e|e|e
        ·omega
        ·omega
        ·have:=e.1;omega) fun _ h=>h)
       clear s1 s1a sf hf8 h8 hf7 hf9 hfo hown7 hb7 hb8 hb9 O8 p0;generalize (w9.setCell ⟨w2.heap.size,6,none⟩ (.slice A7 (pq.length+1) c7))=wn at*;clear w9;go_wp2_with fail;go_roundw
       case rel=>exact⟨g1,pq++[y],_,A7,c7,HQ.out,by simp;omega,by simpa using hc7,HZ9.out,by simpa using BB.out,RR.out,by simpa using OO.out,FF.out,hzz,XX.out⟩
       case measure=>rw[hx1,hx2];omega
     ·rw[if_neg h0] at hq;split at hq
      case isFalse=>cases hq
      case isTrue hc8=>
      obtain⟨hl9,tc,hi6,hp⟩:=hc8;rw[getD_at hi6] at hq hp;obtain⟨y,hy⟩:∃y,ts[i1+1].text=y:=⟨_,rfl⟩;rw[hy] at hq;obtain⟨k5,hk5⟩:∃k5,i1+1+1=k5:=⟨_,rfl⟩;rw[hk5] at hq;subst hk5;have HP:=Zh hp;have HQ:=Zh hq;have HY:=Zh hy;clear hp hq hy
      have TC:=Zh tc;clear tc;have hpos:0<pq.length:=by omega
      have hne8:((pq.length:Int)==8)=false:=by rw[beq_eq_false_iff_ne];omega
      have p0:=(Zc G6.out.blk).1 0 _ rfl;go_wp2_with fail;refine(need_any ok ts A c be w6b i1 ⟨#[44]⟩ G6.out.eye hi5 TC.out).mono ?_;rintro e w7b ⟨rfl,hf1,h⟩;have hf:=eye_ps (bp:=bp) hf1;have G7:=Zh (G6.out.moved hf1 h);have B7:=Zh (Zb B6.out hf (ps_far hbe hbp (by omega)));have R7:=Zh (Zb R6.out hf (ps_far hbe hbp (by omega)));have F7:=Zh (F6.out.trans hf);have O7:=Zh (O6.out.fr hf (fun k hk=>ps_far hbe hbp (by omega)));have X7:=Zh (X6.out.fr hf (fun q hq=>ps_far hbe hbp (by have:=hq.1;omega)) fun _ h=>h);have hz7b:w6a.heap.size≤w7b.heap.size:=Nat.le_trans hz6b hf.size;clear hf hf1 h p0 s1;have s1:=(Zc B7.out).1 6 _ rfl;have sf:=(Zc B7.out).2;have p0:=(Zc G7.out.blk).1 0 _ rfl;have HCE:=Zh (ename_any ok ts A c be w7b.drew (i1+1) (G7.out.stay (Zf w7b).drew).eye hi6 HP.out);rw[HY.out] at HCE;go_upto_region 17 with fail
      go_region_law (first|(refine step_str rfl (.tmp 96) (.tmp 102) rfl w6a.heap.size (.slice A1 pq.length c1) pq y rfl O8 hw8 rfl (by omega) (pq.length+1) rfl ?_;intro A7 c7 w9 hc7 hown7 hf7;have hb7:=Zb hb8 hf7 (fun e=>by have:=e.1;omega);have s1:=(Zc hb7).1 6 _ rfl;have sf:=(Zc hb7).2)|(go_simp;go_at_call 160;refine HCE.out.mono ?_;rintro e w8 ⟨rfl,hf8,h8⟩;have hb8:=(Zb (Zb B7.out (Zf w7b).drew (non _)) hf8 (by omega));have s1:=(Zc hb8).1 6 _ rfl;have sf:=(Zc hb8).2;have s1a:=((Zf w8).alloc (.cells #[.string y] 9)).cell' s1 (non _);have O8:=(O7.out.fr (Zf w7b).drew (fun _ _=>non _)).fr hf8 (fun k hk e=>by have e:k=be:=e;omega);have hw6:w7b.heap.size≤w8.heap.size:=hf8.size;have hw8:w6a.heap.size≤w8.heap.size:=Nat.le_trans hz7b hf8.size))
      all_goals
       have hb9:=blk_set hb7 6 (.slice A7 (pq.length+1) c7);have hf9:Fr (fun q=>q=w2.heap.size∨w6a.heap.size≤q) w8 (w9.setCell ⟨w2.heap.size,6,none⟩ (.slice A7 (pq.length+1) c7)):=(hf7.mono fun _ _ h=>.inr h.1).setCell _ _ (.inl (.inl rfl));have hfo:Fr (fun q=>q=be∨q=w2.heap.size∨(w6a.heap.size≤q∧(Value.slice A1 pq.length c1).ownBlock=some q)) w7b (w9.setCell ⟨w2.heap.size,6,none⟩ (.slice A7 (pq.length+1) c7)):=((((Zf w7b).drew.non.trans hf8).mono fun _ _ h=>.inl h).trans (hf7.mono fun _ _ h=>.inr (.inr h))).setCell _ _ (.inl (.inr (.inl rfl)));have HZ9:=Zh (((G7.out.stay (Zf w7b).drew).moved hf8 h8).away hf9 (by omega) (by omega) (fun q hq e=>by have:=HOK.out q hq;omega));have RR:=Zh (Zb (Zb (Zb R7.out (Zf w7b).drew (non _)) hf8 (by omega)) hf9 (by omega));have OO:=Zh (hown7.fr ((Fr.refl (fun q=>q=w2.heap.size) w9).setCell ⟨w2.heap.size,6,none⟩ (.slice A7 (pq.length+1) c7) (.inl rfl)) (fun k hk e=>by have e:k=w2.heap.size:=e;omega));have FF:=Zh (((F7.out.trans (Zf w7b).drew.non).trans (eye_ps (bp:=bp) hf8)).then hf9 (fun k hk e=>by omega));have hzz:w6a.heap.size≤(w9.setCell ⟨w2.heap.size,6,none⟩ (.slice A7 (pq.length+1) c7)).heap.size:=Nat.le_trans hw8 hf9.size;have BB:=Zh (show(w9.setCell ⟨w2.heap.size,6,none⟩ (.slice A7 (pq.length+1) c7)).heap[w2.heap.size]? =some (.cells #[.int .u8 11,.string ⟨#[]⟩,.string nm,.bool false,.bool false,.slice A5 xl.length c5,.slice A7 (pq.length+1) c7,.slice none 0 0,.slice none 0 0] 42 (0,0)) from hb9);have hx1:=cellLen_at ((Zc B5.out).1 6 _ rfl);have hx2:=cellLen_at ((Zc BB.out).1 6 _ rfl);have XX:=Zh (X7.out.fr hfo (fun q hq e=>by
        have h1:=hq.1;have h2:=hq.2;rcases e with e|e|e
        ·omega
        ·omega
        ·have:=e.1;omega) fun _ h=>h)
       clear s1 s1a sf hf8 h8 hf7 hf9 hfo hown7 hb7 hb8 hb9 O8 p0;generalize (w9.setCell ⟨w2.heap.size,6,none⟩ (.slice A7 (pq.length+1) c7))=wn at*;clear w9;go_wp2_with fail;go_roundw
       case rel=>exact⟨g1,pq++[y],_,A7,c7,HQ.out,by simp;omega,by simpa using hc7,HZ9.out,by simpa using BB.out,RR.out,by simpa using OO.out,FF.out,hzz,XX.out⟩
       case measure=>rw[hx1,hx2];omega
  |false=>
   rw[tu,if_neg Bool.false_ne_true] at hq;rw[show tkK ts 4 ⟨#[59]⟩ i1=false from tu];rw[eyeI_f (show tkK ts 4 ⟨#[59]⟩ i1=false from tu)] at h;have G6:=Zh (G5.out.moved hf1 h);clear hf hf1 h p0 tu O5;have s1:=(Zc B6.out).1 5 _ rfl;by_cases h0:pq.length=0
   ·rw[if_pos h0] at hq;cases hp:exprQ ts 50 1 (i1) with
    |none=>rw[hp] at hq;cases hq
    |some r=>
    obtain⟨y,k5⟩:=r;rw[hp,Option.bind_some] at hq;have HP:=Zh hp;have HQ:=Zh hq;clear hp hq
    have hneg:¬0<pq.length:=by omega
    have hne8:((pq.length:Int)==8)=false:=by rw[beq_eq_false_iff_ne];omega
    clear h0;go_upto_region 7 with fail;have s1:=(Zc B6.out).1 5 _ rfl;have sf:=(Zc B6.out).2;have p0:=(Zc G6.out.blk).1 0 _ rfl;have HCE:=Zh (qexpr_any ok ts A c be 50 w6a.drew (i1) 1 1 y k5 (G6.out.stay (Zf w6a).drew).eye HP.out rfl (fun q hq=>by have:=HOK.out q hq;show q<w6a.heap.size;omega));have HV:=Zh O6.out.lt;go_upto_region 11 with fail
    go_region_law (first|(refine step_ex rfl (.tmp 58) (.tmp 64) rfl W3.heap.size w6a.heap.size (.slice A1 pq.length c1) pq y A' c' rfl O8 hk1 hk2 hr8 (fun k hk=>(HV.out k hk).2) hz6a hw6 rfl (by omega) (pq.length+1) rfl ?_;intro A7 c7 w9 hc7 hown7 hf7;have hb7:=Zb hb8 hf7 (fun e=>by have:=e.1;omega);have s1:=(Zc hb7).1 5 _ rfl;have sf:=(Zc hb7).2)|(go_simp;go_at_call 181;refine HCE.out.mono ?_;rintro e w8 ⟨A',c',rfl,hk1,hk2,hf8,h8,hr8⟩;have hb8:=(Zb (Zb B6.out (Zf w6a).drew (non _)) hf8 (by omega));have s1:=(Zc hb8).1 5 _ rfl;have sf:=(Zc hb8).2;have s1a:=((Zf w8).alloc (.cells #[vu8 y.kind,vu64 y.num,.string y.name,vu8 y.op,.slice A' y.kids.length c'] 48)).cell' s1 (non _);have O8:=(O6.out.fr (Zf w6a).drew (fun _ _=>non _)).fr hf8 (fun k hk e=>by have e:k=be:=e;omega);have hw6:w6a.heap.size≤w8.heap.size:=hf8.size;have hw8:W3.heap.size≤w8.heap.size:=Nat.le_trans hz6a hf8.size))
    all_goals
     have hb9:=blk_set hb7 5 (.slice A7 (pq.length+1) c7);have hf9:Fr (fun q=>q=w2.heap.size∨W3.heap.size≤q) w8 (w9.setCell ⟨w2.heap.size,5,none⟩ (.slice A7 (pq.length+1) c7)):=(hf7.mono fun _ _ h=>.inr h.1).setCell _ _ (.inl (.inl rfl));have hfo:Fr (fun q=>q=be∨q=w2.heap.size∨(W3.heap.size≤q∧(Value.slice A1 pq.length c1).ownBlock=some q)) w6a (w9.setCell ⟨w2.heap.size,5,none⟩ (.slice A7 (pq.length+1) c7)):=((((Zf w6a).drew.non.trans hf8).mono fun _ _ h=>.inl h).trans (hf7.mono fun _ _ h=>.inr (.inr h))).setCell _ _ (.inl (.inr (.inl rfl)));have HZ9:=Zh (((G6.out.stay (Zf w6a).drew).moved hf8 h8).away hf9 (by omega) (by omega) (fun q hq e=>by have:=HOK.out q hq;omega));have RR:=Zh (Zb (Zb (Zb R6.out (Zf w6a).drew (non _)) hf8 (by omega)) hf9 (by omega));have OO:=Zh (hown7.fr ((Fr.refl (fun q=>q=w2.heap.size) w9).setCell ⟨w2.heap.size,5,none⟩ (.slice A7 (pq.length+1) c7) (.inl rfl)) (fun k hk e=>by have e:k=w2.heap.size:=e;omega));have FF:=Zh (((F6.out.trans (Zf w6a).drew.non).trans (eye_ps (bp:=bp) hf8)).then hf9 (fun k hk e=>by omega));have hzz:W3.heap.size≤(w9.setCell ⟨w2.heap.size,5,none⟩ (.slice A7 (pq.length+1) c7)).heap.size:=Nat.le_trans hw8 hf9.size;have BB:=Zh (show(w9.setCell ⟨w2.heap.size,5,none⟩ (.slice A7 (pq.length+1) c7)).heap[w2.heap.size]? =some (.cells #[.int .u8 11,.string ⟨#[]⟩,.string nm,.bool false,.bool false,.slice A7 (pq.length+1) c7,.slice none 0 0,.slice none 0 0,.slice none 0 0] 42 (0,0)) from hb9);have hx1:=cellLen_at ((Zc B5.out).1 5 _ rfl);have hx2:=cellLen_at ((Zc BB.out).1 5 _ rfl);clear s1 s1a sf hf8 h8 hf7 hf9 hfo hown7 hb7 hb8 hb9 O8 hr8 hk1 hk2 p0;generalize (w9.setCell ⟨w2.heap.size,5,none⟩ (.slice A7 (pq.length+1) c7))=wn at*;clear w9;go_wp2_with fail;go_roundw
     case rel=>exact⟨g1,pq++[y],_,A7,c7,HQ.out,by simp;omega,by simpa using hc7,HZ9.out,by simpa using BB.out,RR.out,by simpa using OO.out,FF.out,hzz⟩
     case measure=>rw[hx1,hx2];omega
   ·rw[if_neg h0] at hq;split at hq
    case isFalse=>cases hq
    case isTrue hc8=>
    obtain⟨hl9,tc⟩:=hc8;cases hp:exprQ ts 50 1 (i1+1) with
    |none=>rw[hp] at hq;cases hq
    |some r=>
    obtain⟨y,k5⟩:=r;rw[hp,Option.bind_some] at hq;have HP:=Zh hp;have HQ:=Zh hq;clear hp hq
    have TC:=Zh tc;clear tc;have hpos:0<pq.length:=by omega
    have hne8:((pq.length:Int)==8)=false:=by rw[beq_eq_false_iff_ne];omega
    have p0:=(Zc G6.out.blk).1 0 _ rfl;go_wp2_with fail;refine(need_any ok ts A c be w6a i1 ⟨#[44]⟩ G6.out.eye hi5 TC.out).mono ?_;rintro e w7a ⟨rfl,hf1,h⟩;have hf:=eye_ps (bp:=bp) hf1;have G7:=Zh (G6.out.moved hf1 h);have B7:=Zh (Zb B6.out hf (ps_far hbe hbp (by omega)));have R7:=Zh (Zb R6.out hf (ps_far hbe hbp (by omega)));have F7:=Zh (F6.out.trans hf);have O7:=Zh (O6.out.fr hf (fun k hk=>ps_far hbe hbp (by omega)));have hz7a:W3.heap.size≤w7a.heap.size:=Nat.le_trans hz6a hf.size;clear hf hf1 h p0 s1;have s1:=(Zc B7.out).1 5 _ rfl;have sf:=(Zc B7.out).2;have p0:=(Zc G7.out.blk).1 0 _ rfl;have HCE:=Zh (qexpr_any ok ts A c be 50 w7a.drew (i1+1) 1 1 y k5 (G7.out.stay (Zf w7a).drew).eye HP.out rfl (fun q hq=>by have:=HOK.out q hq;show q<w7a.heap.size;omega));have HV:=Zh O7.out.lt;go_upto_region 11 with fail
    go_region_law (first|(refine step_ex rfl (.tmp 58) (.tmp 64) rfl W3.heap.size w7a.heap.size (.slice A1 pq.length c1) pq y A' c' rfl O8 hk1 hk2 hr8 (fun k hk=>(HV.out k hk).2) hz7a hw6 rfl (by omega) (pq.length+1) rfl ?_;intro A7 c7 w9 hc7 hown7 hf7;have hb7:=Zb hb8 hf7 (fun e=>by have:=e.1;omega);have s1:=(Zc hb7).1 5 _ rfl;have sf:=(Zc hb7).2)|(go_simp;go_at_call 181;refine HCE.out.mono ?_;rintro e w8 ⟨A',c',rfl,hk1,hk2,hf8,h8,hr8⟩;have hb8:=(Zb (Zb B7.out (Zf w7a).drew (non _)) hf8 (by omega));have s1:=(Zc hb8).1 5 _ rfl;have sf:=(Zc hb8).2;have s1a:=((Zf w8).alloc (.cells #[vu8 y.kind,vu64 y.num,.string y.name,vu8 y.op,.slice A' y.kids.length c'] 48)).cell' s1 (non _);have O8:=(O7.out.fr (Zf w7a).drew (fun _ _=>non _)).fr hf8 (fun k hk e=>by have e:k=be:=e;omega);have hw6:w7a.heap.size≤w8.heap.size:=hf8.size;have hw8:W3.heap.size≤w8.heap.size:=Nat.le_trans hz7a hf8.size))
    all_goals
     have hb9:=blk_set hb7 5 (.slice A7 (pq.length+1) c7);have hf9:Fr (fun q=>q=w2.heap.size∨W3.heap.size≤q) w8 (w9.setCell ⟨w2.heap.size,5,none⟩ (.slice A7 (pq.length+1) c7)):=(hf7.mono fun _ _ h=>.inr h.1).setCell _ _ (.inl (.inl rfl));have hfo:Fr (fun q=>q=be∨q=w2.heap.size∨(W3.heap.size≤q∧(Value.slice A1 pq.length c1).ownBlock=some q)) w7a (w9.setCell ⟨w2.heap.size,5,none⟩ (.slice A7 (pq.length+1) c7)):=((((Zf w7a).drew.non.trans hf8).mono fun _ _ h=>.inl h).trans (hf7.mono fun _ _ h=>.inr (.inr h))).setCell _ _ (.inl (.inr (.inl rfl)));have HZ9:=Zh (((G7.out.stay (Zf w7a).drew).moved hf8 h8).away hf9 (by omega) (by omega) (fun q hq e=>by have:=HOK.out q hq;omega));have RR:=Zh (Zb (Zb (Zb R7.out (Zf w7a).drew (non _)) hf8 (by omega)) hf9 (by omega));have OO:=Zh (hown7.fr ((Fr.refl (fun q=>q=w2.heap.size) w9).setCell ⟨w2.heap.size,5,none⟩ (.slice A7 (pq.length+1) c7) (.inl rfl)) (fun k hk e=>by have e:k=w2.heap.size:=e;omega));have FF:=Zh (((F7.out.trans (Zf w7a).drew.non).trans (eye_ps (bp:=bp) hf8)).then hf9 (fun k hk e=>by omega));have hzz:W3.heap.size≤(w9.setCell ⟨w2.heap.size,5,none⟩ (.slice A7 (pq.length+1) c7)).heap.size:=Nat.le_trans hw8 hf9.size;have BB:=Zh (show(w9.setCell ⟨w2.heap.size,5,none⟩ (.slice A7 (pq.length+1) c7)).heap[w2.heap.size]? =some (.cells #[.int .u8 11,.string ⟨#[]⟩,.string nm,.bool false,.bool false,.slice A7 (pq.length+1) c7,.slice none 0 0,.slice none 0 0,.slice none 0 0] 42 (0,0)) from hb9);have hx1:=cellLen_at ((Zc B5.out).1 5 _ rfl);have hx2:=cellLen_at ((Zc BB.out).1 5 _ rfl);clear s1 s1a sf hf8 h8 hf7 hf9 hfo hown7 hb7 hb8 hb9 O8 hr8 hk1 hk2 p0;generalize (w9.setCell ⟨w2.heap.size,5,none⟩ (.slice A7 (pq.length+1) c7))=wn at*;clear w9;go_wp2_with fail;go_roundw
     case rel=>exact⟨g1,pq++[y],_,A7,c7,HQ.out,by simp;omega,by simpa using hc7,HZ9.out,by simpa using BB.out,RR.out,by simpa using OO.out,FF.out,hzz⟩
     case measure=>rw[hx1,hx2];omega
end Go.Proofs.YtpkpgmnbheenbaaGreatDoor
