/- Contracts and laws, Mh16 -/
import Derived.Test.YtpkpgmnbheenbaaGreatDoorMh01
import Derived.Test.YtpkpgmnbheenbaaGreatDoorMh04
import Derived.Test.YtpkpgmnbheenbaaGreatDoorMh07
import Derived.Test.YtpkpgmnbheenbaaGreatDoorMh15
import Derived.Deep.DeepCutAuto
import Derived.Deep.CutBlock
import Derived.Deep.RegionLaw
namespace Go.Proofs.YtpkpgmnbheenbaaGreatDoor
open Go.RowKit
set_option linter.unusedVariables false
set_option linter.unusedSimpArgs false
set_option maxHeartbeats 8000000
set_option maxRecDepth 100000
structure FuRq (ok:Nat→Prop) (w:World) (s:Fu) (A1 A2 A3:Option Addr) (c1 c2 c3:Nat):Prop where
 params:s.params.length≤c1∧s.params.length*24≤reach∧RdRows ok w 4 A1 0 (s.params.map Pa.d)
 body:s.body.length≤c2∧s.body.length*144≤reach∧RdRows ok w 9 A2 0 (St.ds s.body)
 ret:s.ret.length≤c3∧s.ret.length*64≤reach∧RdRows ok w 5 A3 0 (Ex.ds s.ret)
def pasQ (ts:List Tk):Nat→List Pa→Nat→Option (List Pa×Nat)
 |0,_,_=>none
 |g+1,l,i=>if i<ts.length then
   (if tkK ts 4 gUnpar i=true then some (l,i+1)
    else if l.length=0 then(paQ ts i).bind fun p=>pasQ ts g (l++[p.1]) p.2
    else if l.length<8∧tkK ts 4 gCom i=true then(paQ ts (i+1)).bind fun p=>pasQ ts g (l++[p.1]) p.2
    else none)
  else none
def retQ (ts:List Tk) (i:Nat):Option ((Bool×List Ex)×Nat):=
 if i<ts.length then
  (if tkK ts 4 gEq i=true then(if i+1<ts.length then(exprQ ts 50 1 (eyeI ts 2 wSecret (i+1))).bind fun e=>if e.2<ts.length∧tkK ts 4 gSem e.2=true then some ((tkK ts 2 wSecret (i+1),[e.1]),e.2+1) else none else none)
   else if tkK ts 4 gSem i=true then some ((false,[]),i+1) else none)
 else none
def fnQ (ts:List Tk) (n i:Nat):Option (Fu×Nat×Nat):=
 if i<ts.length∧nmT (ts.getD i Tk.zero)=true∧i+1<ts.length∧tkK ts 4 gPar (i+1)=true then
  (pasQ ts 20 [] (i+1+1)).bind fun p=>(blkQ ts 60 1 n p.2).bind fun b=>(retQ ts b.2.2).bind fun r=>some (⟨(ts.getD i Tk.zero).text,p.1,b.1,r.1.1,r.1.2⟩,b.2.1,r.2)
 else none
def eyeIx (be:Nat) (w:World):Nat:=match w.cell? ⟨be,1,none⟩ with
 |some (.int _ x)=>x.toNat
 |_=>0
theorem eyeIx_at {ok:Nat→Prop} {ts:List Tk} {A:Option Addr} {c be:Nat} {w:World} {i:Nat} (h:EyeAt ok ts A c be w i):eyeIx be w=i:=by
 have:=(Zc h.blk).1 1 _ rfl;simp[eyeIx,this]
theorem eyeI_le (ts:List Tk) (k:UInt8) (s:ByteArray) (i:Nat):i≤eyeI ts k s i:=by unfold eyeI;split<;>omega
theorem paQ_lt {ts:List Tk} {i j:Nat} {x:Pa} (h:paQ ts i=some (x,j)):i<j:=by
 have hl:=eyeI_le ts 2 wSecret (i+1);rw[paQ] at h;split at h
 ·split at h
  ·split at h
   ·cases h;omega
   ·cases h
  ·split at h
   ·split at h
    ·cases h;omega
    ·cases h
   ·split at h
    ·split at h
     ·cases h;omega
     ·cases h
    ·split at h
     ·split at h
      ·cases h;omega
      ·cases h
     ·cases h
 ·cases h
theorem chunk_pa {ok:Nat→Prop} {w:World} (x:Pa):Chunks ok w 4 [x.d] [.string x.name,.bool x.buf,.bool x.sec,.bool x.mt]:=
 ⟨_,[],rfl,rfl,rfl,⟨_,_,rfl,rfl,_,_,rfl,rfl,_,_,rfl,rfl,_,_,rfl,rfl,rfl⟩,rfl⟩
theorem step_pa {ops:Array Oper} {o:Oper} {a:Act} {K:Act→World→Prop} {Q:Exit→Act→World→Prop} {E:Prop} {w:World} (hgd:o.guard=none) (s x:Operand)
  (ho:o.op= .call {callee:=.builtin .append,args:=#[s,x],argTypes:=#[51,51]})
  (base:Nat) (v:Value) (l:List Pa) (y:Pa) (hs:a.eval s=v) (hown:Own base 56 4 w v (l.map Pa.d)) (hw1:base≤w.heap.size)
  (hx:a.eval x= .slice (some ⟨w.heap.size,0,none⟩) 1 1) (hn:l.length≤1000) (n1:Nat) (hn1:l.length+1=n1)
  (h:∀A7 c7 w7,n1≤c7→Own base 56 4 w7 (.slice A7 n1 c7) ((l++[y]).map Pa.d)→Fr (fun k=>base≤k∧v.ownBlock=some k) w w7→K (a.put o.dst (.slice A7 n1 c7)) w7):
  if Region.wanted o (yielded ops a.tmps)=true then Oper.wp Tryz.prog o a (w.alloc (.cells #[.string y.name,.bool y.buf,.bool y.sec,.bool y.mt] 56)) K Q else E:=by
 subst hn1;have hfa:Fr Non w (w.alloc (.cells #[.string y.name,.bool y.buf,.bool y.sec,.bool y.mt] 56)):=(Zf w).alloc _;have hlen:(l.map Pa.d).length=l.length:=List.length_map _;refine step_own (z:=paZ) (size:=4) (bytes:=24) (by kernel_rfl) (by kernel_rfl) rfl (by decide) (by decide) hgd s x ho base v (l.map Pa.d) hs (hown.fr hfa fun _ _=>non _) ⟨w.heap.size,0,none⟩ 1 hx y.d [.string y.name,.bool y.buf,.bool y.sec,.bool y.mt]
  (chunk_pa y) (new_cells' rfl) (by intro u hu;simp at hu;rcases hu with rfl|rfl|rfl|rfl<;>rfl) (by rw[hlen];exact hn) (by simp;omega) ?_
 intro A7 c7 w7 hc hO hf;rw[hlen] at hc hO ⊢;exact h A7 c7 w7 hc (by rw[List.map_append];exact hO) ((hfa.mono (T:=fun k=>base≤k∧v.ownBlock=some k) fun _ _ h=>h.elim).trans hf)
theorem qfunc_any (ok:Nat→Prop) (ts:List Tk) (A:Option Addr) (c be bp:Nat) (w:World) (i n:Nat) (x:Fu) (n' j:Nat) (h:PsAt ok ts A c be bp w i n) (hok:∀q,ok q→q<w.heap.size) (hx:fnQ ts n i=some (x,n',j)):
  Calls Tryz.prog 125 #[.pointer (some ⟨bp,0,none⟩)] w fun e w'=>∃A1 A2 A3 c1 c2 c3,e= .returned (.agg #[.string x.name,.slice A1 x.params.length c1,.slice A2 x.body.length c2,.bool x.sec,.slice A3 x.ret.length c3])∧Fr (PS be bp) w w'∧PsAt ok ts A c be bp w' j n'∧FuRq (New w.heap.size w') w' x A1 A2 A3 c1 c2 c3:=by
 have hbe:=blk_lt h.eye.blk;have hbp:=blk_lt h.blk;have hlen:=h.eye.len;rw[fnQ] at hx;split at hx
 case isFalse=>cases hx
 case isTrue hc=>
 obtain⟨hi,hnm,hi1,t1⟩:=hc;cases hh:pasQ ts 20 [] (i+1+1) with
 |none=>rw[hh] at hx;cases hx
 |some p=>
 obtain⟨ps,i3⟩:=p;rw[hh,Option.bind_some] at hx;cases hb:blkQ ts 60 1 n i3 with
 |none=>simp only[hb] at hx;cases hx
 |some b=>
 obtain⟨l,n2,j1⟩:=b;simp only[hb,Option.bind_some] at hx;cases ht:retQ ts j1 with
 |none=>rw[ht] at hx;cases hx
 |some r=>
 obtain⟨⟨rs,rl⟩,j2⟩:=r;rw[ht] at hx;rw[getD_at hi] at hx hnm;obtain⟨nm,hnq⟩:∃nm,ts[i].text=nm:=⟨_,rfl⟩;rw[hnq] at hx;simp only[Option.bind_some,Option.some.injEq,Prod.mk.injEq] at hx;obtain⟨rfl,rfl,rfl⟩:=hx;have BK:=qblk_any ok ts A c be bp 60 60 (Nat.le_refl _);obtain⟨W1,HW1⟩:∃W1,W1=w.alloc (.cells #[.string ⟨#[]⟩,.slice none 0 0,.slice none 0 0,.bool false,.slice none 0 0] 53):=⟨_,rfl⟩;have hf1:Fr Non w W1:=by rw[HW1];exact(Zf w).alloc _
 have R1:=Zh (show W1.heap[w.heap.size]? =some (.cells #[.string ⟨#[]⟩,.slice none 0 0,.slice none 0 0,.bool false,.slice none 0 0] 53 (0,0)) by rw[HW1];exact blk_new _ _ _);have H1:=Zh (h.stay hf1);clear h;have F1:=Zh (show Fr (PS be bp) w W1 from hf1.non);clear hf1;have HOK:=Zh hok;clear hok;have HNM:=Zh hnm;have T1:=Zh t1;have HBL:=Zh hb;have HT:=Zh ht;have HH:=Zh hh;have HNQ:=Zh hnq
 clear hnm t1 hb ht hh hnq;have p0:=(Zc H1.out.blk).1 0 _ rfl;go_enter Tryz.func125,Tryz.ntmps125;go_upto_region 1 with fail;rw[←HW1];clear HW1;go_wp2_with fail;refine(ename_any ok ts A c be W1 i H1.out.eye hi HNM.out).mono ?_;rintro e w2 ⟨rfl,hf1,h⟩;rw[HNQ.out];have H2:=Zh (H1.out.moved hf1 h);have hf:=eye_ps (bp:=bp) hf1;have R2:=Zh (Zb R1.out hf (ps_far hbe hbp (by omega)));have F2:=Zh (F1.out.trans hf);clear hf hf1 h p0;have hz2:w.heap.size<w2.heap.size:=blk_lt R2.out;obtain⟨W3,HW3⟩:∃W3,W3=w2.alloc (.cells #[.string nm,.slice none 0 0,.slice none 0 0,.bool false,.slice none 0 0] 53):=⟨_,rfl⟩;have hf:Fr Non w2 W3:=by rw[HW3];exact(Zf _).alloc _
 have hB3:W3.heap.size=w2.heap.size+1:=by rw[HW3];simp
 have S3:=Zh (show W3.heap[w2.heap.size]? =some (.cells #[.string nm,.slice none 0 0,.slice none 0 0,.bool false,.slice none 0 0] 53 (0,0)) by rw[HW3];exact blk_new _ _ _);have H3:=Zh (H2.out.stay hf);have R3:=Zh (Zb R2.out hf (non _));have F3:=Zh (F2.out.trans hf.non);clear hf;go_upto_region 2 with fail;rw[←HW3];clear HW3;have p0:=(Zc H3.out.blk).1 0 _ rfl;go_wp2_with fail;refine(need_any ok ts A c be W3 (i+1) ⟨#[40]⟩ H3.out.eye hi1 T1.out).mono ?_;rintro e w4 ⟨rfl,hf1,h⟩;have H4:=Zh (H3.out.moved hf1 h);have hf:=eye_ps (bp:=bp) hf1;have R4:=Zh (Zb R3.out hf (ps_far hbe hbp (by omega)));have S4:=Zh (Zb S3.out hf (ps_far hbe hbp (by omega)));have F4:=Zh (F3.out.trans hf);clear hf hf1 h p0;have HZ4:=Zh (show W3.heap.size≤w4.heap.size by have:=blk_lt S4.out;omega);go_wp2_with fail
 go_loopw [] (fun wz=>∃(g1:Nat) (pq:List Pa) (i1:Nat) (A1:Option Addr) (c1:Nat),pasQ ts g1 pq i1=some (ps,i3)∧pq.length≤8∧pq.length≤c1∧PsAt ok ts A c be bp wz i1 n∧wz.heap[w2.heap.size]? =some (.cells #[.string nm,.slice A1 pq.length c1,.slice none 0 0,.bool false,.slice none 0 0] 53 (0,0))∧wz.heap[w.heap.size]? =some (.cells #[.string ⟨#[]⟩,.slice none 0 0,.slice none 0 0,.bool false,.slice none 0 0] 53 (0,0))∧Own W3.heap.size 56 4 wz (.slice A1 pq.length c1) (pq.map Pa.d)∧Fr (PS be bp) w wz∧W3.heap.size≤wz.heap.size) (fun wz=>ts.length-eyeIx be wz)
 case atStart=>exact⟨20,[],_,none,0,HH.out,by simp,by simp,H4.out,S4.out,R4.out,Own.nil _ _ _ _,F4.out,HZ4.out⟩
 case round=>
  obtain⟨g1,pq,i1,A1,c1,hq,hl8,hlc,hps,hS,hR,hO,hF,hz⟩:=hrel;obtain⟨wo,rfl⟩:∃wo:World,wo=wr:=⟨_,rfl⟩;have H5:=Zh hps;have S5:=Zh hS;have R5:=Zh hR;have O5:=Zh hO;have F5:=Zh hF
  clear hps hS hR hO hF;cases g1 with
  |zero=>rw[pasQ] at hq;cases hq
  |succ g1=>
  rw[pasQ] at hq;split at hq
  case isFalse=>cases hq
  case isTrue hi5=>
  go_wp2_with fail;refine(pfine_any ok ts A c be bp wo i1 n H5.out).mono ?_;rintro e wq ⟨rfl,rfl⟩;have p0:=(Zc H5.out.blk).1 0 _ rfl;go_wp2_with fail;refine(esign_any ok ts A c be wo i1 ⟨#[41]⟩ H5.out.eye hi5).mono ?_;rintro e w6 ⟨rfl,hf1,h⟩;have hf:=eye_ps (bp:=bp) hf1;have S6:=Zh (Zb S5.out hf (ps_far hbe hbp (by omega)));have R6:=Zh (Zb R5.out hf (ps_far hbe hbp (by omega)));have F6:=Zh (F5.out.trans hf);have O6:=Zh (O5.out.fr hf (fun k hk=>ps_far hbe hbp (by omega)));have hz6:W3.heap.size≤w6.heap.size:=Nat.le_trans hz hf.size;cases tu:tkK ts 4 gUnpar i1 with
  |true=>
   rw[tu,if_pos rfl] at hq;simp only[Option.some.injEq,Prod.mk.injEq] at hq;obtain⟨rfl,rfl⟩:=hq;rw[show tkK ts 4 ⟨#[41]⟩ i1=true from tu];rw[eyeI_t (show tkK ts 4 ⟨#[41]⟩ i1=true from tu)] at h;have H6:=Zh (H5.out.moved hf1 h);have P6:=Zh (show RdRows (New W3.heap.size w6) w6 4 A1 0 (pq.map Pa.d) from O6.out.rows);clear hf hf1 h p0 tu O6 O5;go_wp2_with fail;refine(BK 1 n (i1+1) l n2 j1 w6 1 HBL.out rfl (by omega) H6.out (fun q hq=>by have:=HOK.out q hq;have:=F6.out.size;omega)).mono ?_;rintro e w7 ⟨A3,c3,rfl,hc3,hl4,hf,h,hr⟩;have H7:=Zh h;have y6:=blk_lt S6.out;have R7:=Zh (Zb R6.out hf (ps_far hbe hbp (by omega)));have S7:=Zh (Zb S6.out hf (ps_far hbe hbp (by omega)));have F7:=Zh (F6.out.trans hf);have P7:=Zh (rows_keep P6.out hf (ps_lt (by omega) (by omega)) (Nat.le_refl _));have Y7:=Zh hr;clear hf h hr;have sx:=(Zc S7.out).1 2 _ rfl;have sf:=(Zc S7.out).2;go_upto_region 10 with fail;have hf:Fr (fun q=>q=w2.heap.size) w7 (w7.setCell ⟨w2.heap.size,2,none⟩ (.slice A3 l.length c3)):=(Fr.refl _ _).setCell _ _ (.inl rfl);have hs:=blk_set S7.out 2 (.slice A3 l.length c3);have S8:=Zh (show(w7.setCell ⟨w2.heap.size,2,none⟩ (.slice A3 l.length c3)).heap[w2.heap.size]? =some (.cells #[(.string nm),(.slice A1 pq.length c1),(.slice A3 l.length c3),(.bool false),(.slice none 0 0)] 53 (0,0)) from hs);have H8:=Zh (H7.out.away hf (by omega) (by omega) (fun q hq e=>by have e:q=w2.heap.size:=e;have:=HOK.out q hq;omega));have R8:=Zh (Zb R7.out hf (by omega));have F8:=Zh (ps_new F7.out hf (by omega));have P8:=Zh (rows_keep P7.out hf (fun k hk=>by have hk:k=w2.heap.size:=hk;omega) (Nat.le_refl _));have Y8:=Zh (rows_keep Y7.out hf (fun k hk=>by have hk:k=w2.heap.size:=hk;omega) (Nat.le_refl _));generalize w7.setCell ⟨w2.heap.size,2,none⟩ (.slice A3 l.length c3)=w8 at*;clear sx sf hf hs;have ht:=HT.out;rw[retQ] at ht;split at ht
   case isFalse=>cases ht
   case isTrue hj1=>
   cases te:tkK ts 4 gEq j1 with
   |true=>
    rw[te,if_pos rfl] at ht;split at ht
    case isFalse=>cases ht
    case isTrue hj2=>
    obtain⟨sb,hsb⟩:∃sb,tkK ts 2 wSecret (j1+1)=sb:=⟨_,rfl⟩;obtain⟨i2,hi2⟩:∃i2,eyeI ts 2 wSecret (j1+1)=i2:=⟨_,rfl⟩;rw[hsb,hi2] at ht;have HSB:=Zh hsb;have HI2:=Zh hi2;clear hsb hi2
    cases he:exprQ ts 50 1 i2 with
    |none=>rw[he] at ht;cases ht
    |some r=>
    obtain⟨y,k1⟩:=r;rw[he,Option.bind_some] at ht;split at ht
    case isFalse=>cases ht
    case isTrue hq2=>
    obtain⟨hk1,ts3⟩:=hq2;simp only[Option.some.injEq,Prod.mk.injEq] at ht;obtain⟨⟨rfl,rfl⟩,rfl⟩:=ht;have TE:=Zh te;have TS3:=Zh ts3;have HE:=Zh he
    clear te ts3 he HT;have p0:=(Zc H8.out.blk).1 0 _ rfl;go_wp2_with fail;refine(esign_any ok ts A c be w8 (j1) ⟨#[61]⟩ H8.out.eye hj1).mono ?_;rintro e w9 ⟨rfl,hf1,h⟩;rw[show tkK ts 4 ⟨#[61]⟩ (j1)=true from TE.out];rw[eyeI_t (show tkK ts 4 ⟨#[61]⟩ (j1)=true from TE.out)] at h;have H9:=Zh (H8.out.moved hf1 h);have hf:=eye_ps (bp:=bp) hf1;have R9:=Zh (Zb R8.out hf (ps_far hbe hbp (by omega)));have S9:=Zh (Zb S8.out hf (ps_far hbe hbp (by omega)));have F9:=Zh (F8.out.trans hf);have P9:=Zh (rows_keep P8.out hf (ps_lt (by omega) (by omega)) (Nat.le_refl _));have Y9:=Zh (rows_keep Y8.out hf (ps_lt (by omega) (by omega)) (Nat.le_refl _));clear hf hf1 h p0;go_wp2_with fail;refine(eword_any ok ts A c be bp w9 (j1+1) n2 ⟨#[115,101,99,114,101,116]⟩ H9.out hj2).mono ?_;rintro e w10 ⟨rfl,hf,h⟩;rw[show tkK ts 2 ⟨#[115,101,99,114,101,116]⟩ (j1+1)=sb from HSB.out];rw[show eyeI ts 2 ⟨#[115,101,99,114,101,116]⟩ (j1+1)=i2 from HI2.out] at h;have H10:=Zh h;have R10:=Zh (Zb R9.out hf (ps_far hbe hbp (by omega)));have S10:=Zh (Zb S9.out hf (ps_far hbe hbp (by omega)));have F10:=Zh (F9.out.trans hf);have P10:=Zh (rows_keep P9.out hf (ps_lt (by omega) (by omega)) (Nat.le_refl _));have Y10:=Zh (rows_keep Y9.out hf (ps_lt (by omega) (by omega)) (Nat.le_refl _));clear hf h;have sx:=(Zc S10.out).1 3 _ rfl;have sf:=(Zc S10.out).2;go_upto_region 12 with fail;have hf:Fr (fun q=>q=w2.heap.size) w10 (w10.setCell ⟨w2.heap.size,3,none⟩ (.bool sb)):=(Fr.refl _ _).setCell _ _ (.inl rfl);have hs:=blk_set S10.out 3 (.bool sb);have S11:=Zh (show(w10.setCell ⟨w2.heap.size,3,none⟩ (.bool sb)).heap[w2.heap.size]? =some (.cells #[(.string nm),(.slice A1 pq.length c1),(.slice A3 l.length c3),(.bool sb),(.slice none 0 0)] 53 (0,0)) from hs);have H11:=Zh (H10.out.away hf (by omega) (by omega) (fun q hq e=>by have e:q=w2.heap.size:=e;have:=HOK.out q hq;omega));have R11:=Zh (Zb R10.out hf (by omega));have F11:=Zh (ps_new F10.out hf (by omega));have P11:=Zh (rows_keep P10.out hf (fun k hk=>by have hk:k=w2.heap.size:=hk;omega) (Nat.le_refl _));have Y11:=Zh (rows_keep Y10.out hf (fun k hk=>by have hk:k=w2.heap.size:=hk;omega) (Nat.le_refl _));generalize w10.setCell ⟨w2.heap.size,3,none⟩ (.bool sb)=w11 at*;clear sx sf hf hs;go_wp2_with fail;refine(qexprs_any ok ts A c be bp 50 w11 (i2) n2 w11.heap.size y k1 H11.out HE.out (fun q hq=>by have:=HOK.out q hq;have:=F11.out.size;omega) (Nat.le_refl _)).mono ?_;rintro e w12 ⟨g,rfl,hf,h,ho⟩;have hr:RdRows (New w11.heap.size w12) w12 5 (some ⟨g,0,none⟩) 0 (Ex.ds [y]):=ho.rows;clear ho;have H12:=Zh h;have y11:=blk_lt S11.out;have z11:w2.heap.size<w11.heap.size:=by omega
    have R12:=Zh (Zb R11.out hf (ps_far hbe hbp (by omega)));have S12:=Zh (Zb S11.out hf (ps_far hbe hbp (by omega)));have F12:=Zh (F11.out.trans hf);have P12:=Zh (rows_keep P11.out hf (ps_lt (by omega) (by omega)) (Nat.le_refl _));have Y12:=Zh (rows_keep Y11.out hf (ps_lt (by omega) (by omega)) (Nat.le_refl _));have X12:=Zh hr;clear hf h hr;have sx:=(Zc S12.out).1 4 _ rfl;have sf:=(Zc S12.out).2;go_upto_region 13 with fail;have hf:Fr (fun q=>q=w2.heap.size) w12 (w12.setCell ⟨w2.heap.size,4,none⟩ (.slice (some ⟨g,0,none⟩) 1 1)):=(Fr.refl _ _).setCell _ _ (.inl rfl);have hs:=blk_set S12.out 4 (.slice (some ⟨g,0,none⟩) 1 1);have S13:=Zh (show(w12.setCell ⟨w2.heap.size,4,none⟩ (.slice (some ⟨g,0,none⟩) 1 1)).heap[w2.heap.size]? =some (.cells #[(.string nm),(.slice A1 pq.length c1),(.slice A3 l.length c3),(.bool sb),(.slice (some ⟨g,0,none⟩) 1 1)] 53 (0,0)) from hs);have H13:=Zh (H12.out.away hf (by omega) (by omega) (fun q hq e=>by have e:q=w2.heap.size:=e;have:=HOK.out q hq;omega));have R13:=Zh (Zb R12.out hf (by omega));have F13:=Zh (ps_new F12.out hf (by omega));have P13:=Zh (rows_keep P12.out hf (fun k hk=>by have hk:k=w2.heap.size:=hk;omega) (Nat.le_refl _));have Y13:=Zh (rows_keep Y12.out hf (fun k hk=>by have hk:k=w2.heap.size:=hk;omega) (Nat.le_refl _));have X13:=Zh (rows_keep X12.out hf (fun k hk=>by have hk:k=w2.heap.size:=hk;omega) (Nat.le_refl _));generalize w12.setCell ⟨w2.heap.size,4,none⟩ (.slice (some ⟨g,0,none⟩) 1 1)=w13 at*;clear sx sf hf hs;have p0:=(Zc H13.out.blk).1 0 _ rfl;go_wp2_with fail;refine(need_any ok ts A c be w13 k1 ⟨#[59]⟩ H13.out.eye hk1 TS3.out).mono ?_;rintro e w14 ⟨rfl,hf1,h⟩;have H14:=Zh (H13.out.moved hf1 h);have hf:=eye_ps (bp:=bp) hf1;have R14:=Zh (Zb R13.out hf (ps_far hbe hbp (by omega)));have S14:=Zh (Zb S13.out hf (ps_far hbe hbp (by omega)));have F14:=Zh (F13.out.trans hf);have P14:=Zh (rows_keep P13.out hf (ps_lt (by omega) (by omega)) (Nat.le_refl _));have Y14:=Zh (rows_keep Y13.out hf (ps_lt (by omega) (by omega)) (Nat.le_refl _));have X14:=Zh (rows_keep X13.out hf (ps_lt (by omega) (by omega)) (Nat.le_refl _));clear hf hf1 h p0;have l0:=(Zc S14.out).1 0 _ rfl;have r0:=(Zc R14.out).1 0 _ rfl;have l1:=(Zc S14.out).1 1 _ rfl;have r1:=(Zc R14.out).1 1 _ rfl;have l2:=(Zc S14.out).1 2 _ rfl;have r2:=(Zc R14.out).1 2 _ rfl;have l3:=(Zc S14.out).1 3 _ rfl;have r3:=(Zc R14.out).1 3 _ rfl;have l4:=(Zc S14.out).1 4 _ rfl;have r4:=(Zc R14.out).1 4 _ rfl;have rf:=(Zc R14.out).2;go_wp2_with fail;have HZ:=Zh (blk_put5 R14.out (.string nm) (.slice A1 pq.length c1) (.slice A3 l.length c3) (.bool sb) (.slice (some ⟨g,0,none⟩) 1 1));have HFZ:=Zh (fr_put5 (g:=w.heap.size) (w:=w14) (.string nm) (.slice A1 pq.length c1) (.slice A3 l.length c3) (.bool sb) (.slice (some ⟨g,0,none⟩) 1 1));generalize (((((w14.setCell ⟨w.heap.size,0,none⟩ (.string nm)).setCell ⟨w.heap.size,1,none⟩ (.slice A1 pq.length c1)).setCell ⟨w.heap.size,2,none⟩ (.slice A3 l.length c3)).setCell ⟨w.heap.size,3,none⟩ (.bool sb)).setCell ⟨w.heap.size,4,none⟩ (.slice (some ⟨g,0,none⟩) 1 1))=wz at*;clear l0 l1 l2 l3 l4 r0 r1 r2 r3 r4 rf;have PZ:=Zh (rows_keep P14.out HFZ.out (fun k hk=>by have hk:k=w.heap.size:=hk;omega) (lo0:=w.heap.size) (by omega));have YZ:=Zh (rows_keep Y14.out HFZ.out (fun k hk=>by have hk:k=w.heap.size:=hk;omega) (lo0:=w.heap.size) (by omega));have XZ:=Zh (rows_keep X14.out HFZ.out (fun k hk=>by have hk:k=w.heap.size:=hk;omega) (lo0:=w.heap.size) (by omega));have f0:=(Zc HZ.out).1 0 _ rfl;have f1:=(Zc HZ.out).1 1 _ rfl;have f2:=(Zc HZ.out).1 2 _ rfl;have f3:=(Zc HZ.out).1 3 _ rfl;have f4:=(Zc HZ.out).1 4 _ rfl;refine bodyPost_ret (v:=.agg #[(.string nm),(.slice A1 pq.length c1),(.slice A3 l.length c3),(.bool sb),(.slice (some ⟨g,0,none⟩) 1 1)]) (by simp[results,Tryz.results125,go_sem,f0,f1,f2,f3,f4]) rfl ⟨_,_,_,_,_,_,rfl,ps_new F14.out HFZ.out (Nat.le_refl _),H14.out.away HFZ.out (by omega) (by omega) (fun q hq e=>by have e:q=w.heap.size:=e;have:=HOK.out q hq;omega),?_⟩;exact⟨⟨hlc,(by show pq.length*24≤reach;unfold reach;omega),PZ.out⟩,⟨hc3,(by show l.length*144≤reach;unfold reach;omega),YZ.out⟩,⟨Nat.le_refl 1,(by decide:1*64≤reach),XZ.out⟩⟩
   |false=>
    rw[te,if_neg Bool.false_ne_true] at ht;split at ht
    case isFalse=>cases ht
    case isTrue ts3=>
    simp only[Option.some.injEq,Prod.mk.injEq] at ht;obtain⟨⟨rfl,rfl⟩,rfl⟩:=ht;have TE:=Zh te;have TS3:=Zh ts3
    clear te ts3 HT;have p0:=(Zc H8.out.blk).1 0 _ rfl;go_wp2_with fail;refine(esign_any ok ts A c be w8 (j1) ⟨#[61]⟩ H8.out.eye hj1).mono ?_;rintro e w9 ⟨rfl,hf1,h⟩;rw[show tkK ts 4 ⟨#[61]⟩ (j1)=false from TE.out];rw[eyeI_f (show tkK ts 4 ⟨#[61]⟩ (j1)=false from TE.out)] at h;have H9:=Zh (H8.out.moved hf1 h);have hf:=eye_ps (bp:=bp) hf1;have R9:=Zh (Zb R8.out hf (ps_far hbe hbp (by omega)));have S9:=Zh (Zb S8.out hf (ps_far hbe hbp (by omega)));have F9:=Zh (F8.out.trans hf);have P9:=Zh (rows_keep P8.out hf (ps_lt (by omega) (by omega)) (Nat.le_refl _));have Y9:=Zh (rows_keep Y8.out hf (ps_lt (by omega) (by omega)) (Nat.le_refl _));clear hf hf1 h p0;have p0:=(Zc H9.out.blk).1 0 _ rfl;go_wp2_with fail;refine(need_any ok ts A c be w9 j1 ⟨#[59]⟩ H9.out.eye hj1 TS3.out).mono ?_;rintro e w10 ⟨rfl,hf1,h⟩;have H10:=Zh (H9.out.moved hf1 h);have hf:=eye_ps (bp:=bp) hf1;have R10:=Zh (Zb R9.out hf (ps_far hbe hbp (by omega)));have S10:=Zh (Zb S9.out hf (ps_far hbe hbp (by omega)));have F10:=Zh (F9.out.trans hf);have P10:=Zh (rows_keep P9.out hf (ps_lt (by omega) (by omega)) (Nat.le_refl _));have Y10:=Zh (rows_keep Y9.out hf (ps_lt (by omega) (by omega)) (Nat.le_refl _));clear hf hf1 h p0;have l0:=(Zc S10.out).1 0 _ rfl;have r0:=(Zc R10.out).1 0 _ rfl;have l1:=(Zc S10.out).1 1 _ rfl;have r1:=(Zc R10.out).1 1 _ rfl;have l2:=(Zc S10.out).1 2 _ rfl;have r2:=(Zc R10.out).1 2 _ rfl;have l3:=(Zc S10.out).1 3 _ rfl;have r3:=(Zc R10.out).1 3 _ rfl;have l4:=(Zc S10.out).1 4 _ rfl;have r4:=(Zc R10.out).1 4 _ rfl;have rf:=(Zc R10.out).2;go_wp2_with fail;have HZ:=Zh (blk_put5 R10.out (.string nm) (.slice A1 pq.length c1) (.slice A3 l.length c3) (.bool false) (.slice none 0 0));have HFZ:=Zh (fr_put5 (g:=w.heap.size) (w:=w10) (.string nm) (.slice A1 pq.length c1) (.slice A3 l.length c3) (.bool false) (.slice none 0 0));generalize (((((w10.setCell ⟨w.heap.size,0,none⟩ (.string nm)).setCell ⟨w.heap.size,1,none⟩ (.slice A1 pq.length c1)).setCell ⟨w.heap.size,2,none⟩ (.slice A3 l.length c3)).setCell ⟨w.heap.size,3,none⟩ (.bool false)).setCell ⟨w.heap.size,4,none⟩ (.slice none 0 0))=wz at*;clear l0 l1 l2 l3 l4 r0 r1 r2 r3 r4 rf;have PZ:=Zh (rows_keep P10.out HFZ.out (fun k hk=>by have hk:k=w.heap.size:=hk;omega) (lo0:=w.heap.size) (by omega));have YZ:=Zh (rows_keep Y10.out HFZ.out (fun k hk=>by have hk:k=w.heap.size:=hk;omega) (lo0:=w.heap.size) (by omega));have f0:=(Zc HZ.out).1 0 _ rfl;have f1:=(Zc HZ.out).1 1 _ rfl;have f2:=(Zc HZ.out).1 2 _ rfl;have f3:=(Zc HZ.out).1 3 _ rfl;have f4:=(Zc HZ.out).1 4 _ rfl;refine bodyPost_ret (v:=.agg #[(.string nm),(.slice A1 pq.length c1),(.slice A3 l.length c3),(.bool false),(.slice none 0 0)]) (by simp[results,Tryz.results125,go_sem,f0,f1,f2,f3,f4]) rfl ⟨_,_,_,_,_,_,rfl,ps_new F10.out HFZ.out (Nat.le_refl _),H10.out.away HFZ.out (by omega) (by omega) (fun q hq e=>by have e:q=w.heap.size:=e;have:=HOK.out q hq;omega),?_⟩;exact⟨⟨hlc,(by show pq.length*24≤reach;unfold reach;omega),PZ.out⟩,⟨hc3,(by show l.length*144≤reach;unfold reach;omega),YZ.out⟩,⟨Nat.zero_le _,(by decide:0*64≤reach),trivial⟩⟩
  |false=>
   rw[tu,if_neg Bool.false_ne_true] at hq;rw[show tkK ts 4 ⟨#[41]⟩ i1=false from tu];rw[eyeI_f (show tkK ts 4 ⟨#[41]⟩ i1=false from tu)] at h;have H6:=Zh (H5.out.moved hf1 h);clear hf hf1 h p0 tu O5;have s1:=(Zc S6.out).1 1 _ rfl;by_cases h0:pq.length=0
   ·rw[if_pos h0] at hq;cases hp:paQ ts (i1) with
    |none=>rw[hp] at hq;cases hq
    |some r=>
    obtain⟨y,k5⟩:=r;rw[hp,Option.bind_some] at hq;have HP:=Zh hp;have HQ:=Zh hq;clear hp hq
    have hneg:¬0<pq.length:=by omega
    clear h0;go_upto_region 6 with fail;have s1:=(Zc S6.out).1 1 _ rfl;have sf:=(Zc S6.out).2;have HCE:=Zh (qparam_any ok ts A c be bp w6.drew (i1) n y k5 (H6.out.stay (Zf w6).drew) (fun q hq=>by have:=HOK.out q hq;show q<w6.heap.size;omega) HP.out);go_upto_region 8 with fail
    go_region_law (first|(refine step_pa rfl (.tmp 44) (.tmp 47) rfl W3.heap.size (.slice A1 pq.length c1) pq y rfl O8 hw8 rfl (by omega) (pq.length+1) rfl ?_;intro A7 c7 w9 hc7 hown7 hf7;have hb7:=Zb hb8 hf7 (fun e=>by have:=e.1;omega);have s1:=(Zc hb7).1 1 _ rfl;have sf:=(Zc hb7).2)|(go_simp;go_at_call 163;refine HCE.out.mono ?_;rintro e w8 ⟨rfl,hf8,h8⟩;have hb8:=Zb (Zb S6.out (Zf w6).drew (non _)) hf8 (ps_far hbe hbp (by omega));have s1:=(Zc hb8).1 1 _ rfl;have sf:=(Zc hb8).2;have s1a:=((Zf w8).alloc (.cells #[.string y.name,.bool y.buf,.bool y.sec,.bool y.mt] 56)).cell' s1 (non _);have O8:=(O6.out.fr (Zf w6).drew (fun _ _=>non _)).fr hf8 (fun k hk=>ps_far hbe hbp (by omega));have hw8:W3.heap.size≤w8.heap.size:=Nat.le_trans hz6 hf8.size))
    all_goals
     have hb9:=blk_set hb7 1 (.slice A7 (pq.length+1) c7);have hf9:Fr (fun q=>q=w2.heap.size∨W3.heap.size≤q) w8 (w9.setCell ⟨w2.heap.size,1,none⟩ (.slice A7 (pq.length+1) c7)):=(hf7.mono fun _ _ h=>.inr h.1).setCell _ _ (.inl (.inl rfl));have HZ9:=Zh (h8.away hf9 (by omega) (by omega) (fun q hq e=>by have:=HOK.out q hq;omega));have RR:=Zh (Zb (Zb (Zb R6.out (Zf w6).drew (non _)) hf8 (ps_far hbe hbp (by omega))) hf9 (by omega));have OO:=Zh (hown7.fr ((Fr.refl (fun q=>q=w2.heap.size) w9).setCell ⟨w2.heap.size,1,none⟩ (.slice A7 (pq.length+1) c7) (.inl rfl)) (fun k hk e=>by have e:k=w2.heap.size:=e;omega));have FF:=Zh (((F6.out.trans (Zf w6).drew.non).trans hf8).then hf9 (fun k hk e=>by omega));have hzz:W3.heap.size≤(w9.setCell ⟨w2.heap.size,1,none⟩ (.slice A7 (pq.length+1) c7)).heap.size:=Nat.le_trans hw8 hf9.size;have BB:=Zh (show(w9.setCell ⟨w2.heap.size,1,none⟩ (.slice A7 (pq.length+1) c7)).heap[w2.heap.size]? =some (.cells #[.string nm,.slice A7 (pq.length+1) c7,.slice none 0 0,.bool false,.slice none 0 0] 53 (0,0)) from hb9);have hlt:=paQ_lt HP.out;have hx1:=eyeIx_at H5.out.eye;have hx2:=eyeIx_at HZ9.out.eye;clear s1 s1a sf hf8 h8 hf7 hf9 hown7 hb7 hb8 hb9 O8;generalize w9.setCell ⟨w2.heap.size,1,none⟩ (.slice A7 (pq.length+1) c7)=wn at*;clear w9;go_wp2_with fail;go_roundw
     case rel=>exact⟨g1,pq++[y],k5,A7,c7,HQ.out,by simp;omega,by simpa using hc7,HZ9.out,by simpa using BB.out,RR.out,by simpa using OO.out,FF.out,hzz⟩
     case measure=>rw[hx1,hx2];omega
   ·rw[if_neg h0] at hq;split at hq
    case isFalse=>cases hq
    case isTrue hc8=>
    obtain⟨hl9,tc⟩:=hc8;cases hp:paQ ts (i1+1) with
    |none=>rw[hp] at hq;cases hq
    |some r=>
    obtain⟨y,k5⟩:=r;rw[hp,Option.bind_some] at hq;have HP:=Zh hp;have HQ:=Zh hq;clear hp hq
    have TC:=Zh tc;clear tc;have hpos:0<pq.length:=by omega
    have hne8:((pq.length:Int)==8)=false:=by rw[beq_eq_false_iff_ne];omega
    have p0:=(Zc H6.out.blk).1 0 _ rfl;go_wp2_with fail;refine(need_any ok ts A c be w6 i1 ⟨#[44]⟩ H6.out.eye hi5 TC.out).mono ?_;rintro e w7 ⟨rfl,hf1,h⟩;have hf:=eye_ps (bp:=bp) hf1;have H7:=Zh (H6.out.moved hf1 h);have S7:=Zh (Zb S6.out hf (ps_far hbe hbp (by omega)));have R7:=Zh (Zb R6.out hf (ps_far hbe hbp (by omega)));have F7:=Zh (F6.out.trans hf);have O7:=Zh (O6.out.fr hf (fun k hk=>ps_far hbe hbp (by omega)));have hz7:W3.heap.size≤w7.heap.size:=Nat.le_trans hz6 hf.size;clear hf hf1 h p0 s1;have s1:=(Zc S7.out).1 1 _ rfl;have sf:=(Zc S7.out).2;have HCE:=Zh (qparam_any ok ts A c be bp w7.drew (i1+1) n y k5 (H7.out.stay (Zf w7).drew) (fun q hq=>by have:=HOK.out q hq;show q<w7.heap.size;omega) HP.out);go_upto_region 8 with fail
    go_region_law (first|(refine step_pa rfl (.tmp 44) (.tmp 47) rfl W3.heap.size (.slice A1 pq.length c1) pq y rfl O8 hw8 rfl (by omega) (pq.length+1) rfl ?_;intro A7 c7 w9 hc7 hown7 hf7;have hb7:=Zb hb8 hf7 (fun e=>by have:=e.1;omega);have s1:=(Zc hb7).1 1 _ rfl;have sf:=(Zc hb7).2)|(go_simp;go_at_call 163;refine HCE.out.mono ?_;rintro e w8 ⟨rfl,hf8,h8⟩;have hb8:=Zb (Zb S7.out (Zf w7).drew (non _)) hf8 (ps_far hbe hbp (by omega));have s1:=(Zc hb8).1 1 _ rfl;have sf:=(Zc hb8).2;have s1a:=((Zf w8).alloc (.cells #[.string y.name,.bool y.buf,.bool y.sec,.bool y.mt] 56)).cell' s1 (non _);have O8:=(O7.out.fr (Zf w7).drew (fun _ _=>non _)).fr hf8 (fun k hk=>ps_far hbe hbp (by omega));have hw8:W3.heap.size≤w8.heap.size:=Nat.le_trans hz7 hf8.size))
    all_goals
     have hb9:=blk_set hb7 1 (.slice A7 (pq.length+1) c7);have hf9:Fr (fun q=>q=w2.heap.size∨W3.heap.size≤q) w8 (w9.setCell ⟨w2.heap.size,1,none⟩ (.slice A7 (pq.length+1) c7)):=(hf7.mono fun _ _ h=>.inr h.1).setCell _ _ (.inl (.inl rfl));have HZ9:=Zh (h8.away hf9 (by omega) (by omega) (fun q hq e=>by have:=HOK.out q hq;omega));have RR:=Zh (Zb (Zb (Zb R7.out (Zf w7).drew (non _)) hf8 (ps_far hbe hbp (by omega))) hf9 (by omega));have OO:=Zh (hown7.fr ((Fr.refl (fun q=>q=w2.heap.size) w9).setCell ⟨w2.heap.size,1,none⟩ (.slice A7 (pq.length+1) c7) (.inl rfl)) (fun k hk e=>by have e:k=w2.heap.size:=e;omega));have FF:=Zh (((F7.out.trans (Zf w7).drew.non).trans hf8).then hf9 (fun k hk e=>by omega));have hzz:W3.heap.size≤(w9.setCell ⟨w2.heap.size,1,none⟩ (.slice A7 (pq.length+1) c7)).heap.size:=Nat.le_trans hw8 hf9.size;have BB:=Zh (show(w9.setCell ⟨w2.heap.size,1,none⟩ (.slice A7 (pq.length+1) c7)).heap[w2.heap.size]? =some (.cells #[.string nm,.slice A7 (pq.length+1) c7,.slice none 0 0,.bool false,.slice none 0 0] 53 (0,0)) from hb9);have hlt:=paQ_lt HP.out;have hx1:=eyeIx_at H5.out.eye;have hx2:=eyeIx_at HZ9.out.eye;clear s1 s1a sf hf8 h8 hf7 hf9 hown7 hb7 hb8 hb9 O8;generalize w9.setCell ⟨w2.heap.size,1,none⟩ (.slice A7 (pq.length+1) c7)=wn at*;clear w9;go_wp2_with fail;go_roundw
     case rel=>exact⟨g1,pq++[y],k5,A7,c7,HQ.out,by simp;omega,by simpa using hc7,HZ9.out,by simpa using BB.out,RR.out,by simpa using OO.out,FF.out,hzz⟩
     case measure=>rw[hx1,hx2];omega
theorem field_kind (t:Tk) (w:World):Sem.run Tryz.prog (Instr.field 172 (.agg #[vu8 t.kind,.string t.text,vu64 t.num,.int .i64 t.at_]) 0) w= .ok (vu8 t.kind) w:=by
 kernel_rfl
def fnsQ (ts:List Tk):Nat→List Fu→Nat→Nat→Option (List Fu)
 |0,_,_,_=>none
 |g+1,l,n,i=>if i<ts.length then
   (if(ts.getD i Tk.zero).kind.toNat=5 then some l
    else if l.length<16∧tkK ts 2 wFn i=true then(fnQ ts n (i+1)).bind fun r=>fnsQ ts g (l++[r.1]) r.2.1 r.2.2 else none)
  else none
def parseQ (s:ByteArray):Option (List Fu):=
 if s.size≤16384 then(cutS s (s.size+1) 0).bind fun L=>if(L++[endTk s]).length≤20000 then fnsQ (L++[endTk s]) 20 [] 0 0 else none
 else none
def progLen (q:Nat) (w:World):Nat:=match w.cell? ⟨q,0,none⟩ with
 |some (.slice _ n _)=>n
 |_=>0
theorem progLen_at {q:Nat} {w:World} {A:Option Addr} {n c:Nat} {T:TypeId} (h:w.heap[q]? =some (.cells #[.slice A n c] T (0,0))):progLen q w=n:=by
 have:=(Zc h).1 0 _ rfl;simp[progLen,this]
theorem step_fu {ops:Array Oper} {o:Oper} {a:Act} {K:Act→World→Prop} {Q:Exit→Act→World→Prop} {E:Prop} {w:World} (hgd:o.guard=none) (s x:Operand)
  (ho:o.op= .call {callee:=.builtin .append,args:=#[s,x],argTypes:=#[22,22]})
  (base w0:Nat) (v:Value) (l:List Fu) (y:Fu) (A1 A2 A3:Option Addr) (c1 c2 c3:Nat) (hs:a.eval s=v) (hown:Own base 53 5 w v (l.map Fu.d))
  (hr:FuRq (New w0 w) w y A1 A2 A3 c1 c2 c3) (hv:∀k,v.ownBlock=some k→k<w0) (hw0:base≤w0) (hw1:w0≤w.heap.size)
  (hx:a.eval x= .slice (some ⟨w.heap.size,0,none⟩) 1 1) (hn:l.length≤1000) (n1:Nat) (hn1:l.length+1=n1)
  (h:∀A7 c7 w7,n1≤c7→Own base 53 5 w7 (.slice A7 n1 c7) ((l++[y]).map Fu.d)→Fr (fun k=>base≤k∧v.ownBlock=some k) w w7→K (a.put o.dst (.slice A7 n1 c7)) w7):
  if Region.wanted o (yielded ops a.tmps)=true then Oper.wp Tryz.prog o a (w.alloc (.cells #[.string y.name,.slice A1 y.params.length c1,.slice A2 y.body.length c2,.bool y.sec,.slice A3 y.ret.length c3] 53)) K Q else E:=by
 subst hn1;have hfa:Fr Non w (w.alloc (.cells #[.string y.name,.slice A1 y.params.length c1,.slice A2 y.body.length c2,.bool y.sec,.slice A3 y.ret.length c3] 53)):=(Zf w).alloc _;have hlen:(l.map Fu.d).length=l.length:=List.length_map _;have hk:∀q,New w0 w q→okOwn base (w.alloc (.cells #[.string y.name,.slice A1 y.params.length c1,.slice A2 y.body.length c2,.bool y.sec,.slice A3 y.ret.length c3] 53)) v q:=fun q hq=>⟨Nat.le_trans hw0 hq.1,by have:=hq.2;simp;omega,fun e=>by have:=hv q e;have:=hq.1;omega⟩;refine step_own (z:=fuZ) (size:=5) (bytes:=96) (by kernel_rfl) (by kernel_rfl) rfl (by decide) (by decide) hgd s x ho base v (l.map Fu.d) hs (hown.fr hfa fun _ _=>non _) ⟨w.heap.size,0,none⟩ 1 hx y.d [.string y.name,.slice A1 y.params.length c1,.slice A2 y.body.length c2,.bool y.sec,.slice A3 y.ret.length c3]
  (chunk_fu y hr.params.1 hr.params.2.1 (hr.params.2.2.fr hfa (fun _ _=>non _) hk) hr.body.1 hr.body.2.1 (hr.body.2.2.fr hfa (fun _ _=>non _) hk) hr.ret.1 hr.ret.2.1 (hr.ret.2.2.fr hfa (fun _ _=>non _) hk)) (new_cells' rfl) (one_fu _ _ _ _ _ _ _ _ _ _ _) (by rw[hlen];exact hn) (by simp;omega) ?_
 intro A7 c7 w7 hc hO hf;rw[hlen] at hc hO ⊢;exact h A7 c7 w7 hc (by rw[List.map_append];exact hO) ((hfa.mono (T:=fun k=>base≤k∧v.ownBlock=some k) fun _ _ h=>h.elim).trans hf)
theorem qparse_any (s:ByteArray) (xs:List Fu) (w:World) (hx:parseQ s=some xs):
  Calls Tryz.prog 85 #[.string s] w fun e w'=>∃A c,e= .returned (.tuple #[.agg #[.slice A xs.length c],.agg #[.int .i64 0,.int .i64 0]])∧xs.length≤c∧Fr Non w w'∧RdRows (New w.heap.size w') w' 5 A 0 (xs.map Fu.d):=by
 rw[parseQ] at hx;split at hx
 case isFalse=>cases hx
 case isTrue hs=>
 cases hL:cutS s (s.size+1) 0 with
 |none=>rw[hL] at hx;cases hx
 |some L=>
 rw[hL,Option.bind_some] at hx;have htl:(L++[endTk s]).length=L.length+1:=by simp
 generalize hts:L++[endTk s]=ts at*;split at hx
 case isFalse=>cases hx
 case isTrue hlen=>
 obtain⟨W1,HW1⟩:∃W1,W1=(w.alloc (.cells #[.slice none 0 0] 24)).alloc (.cells #[.int .i64 0,.int .i64 0] 34):=⟨_,rfl⟩;have hf1:Fr Non w W1:=by rw[HW1];exact((Zf w).alloc _).alloc _
 have R1:=Zh (show W1.heap[w.heap.size]? =some (.cells #[.slice none 0 0] 24 (0,0)) by rw[HW1];exact blk_old (blk_new _ _ _));have Q1:=Zh (show W1.heap[w.heap.size+1]? =some (.cells #[.int .i64 0,.int .i64 0] 34 (0,0)) by rw[HW1];exact blk_new' (by simp) _ _);have F1:=Zh hf1;clear hf1;have HL:=Zh hL;have HTS:=Zh hts;have HTL:=Zh htl;have HX:=Zh hx
 clear hL htl hts hx;have hz1:=blk_lt Q1.out;go_enter Tryz.func85,Tryz.ntmps85;go_upto_region 1 with fail;rw[←HW1];clear HW1;go_wp2_with fail;refine(cut_any s L W1 hs HL.out).mono ?_;rintro e w2 ⟨A,c,rfl,hcl,hf,hr⟩;rw[HTS.out] at hr;rw[←HTL.out] at hcl ⊢;have TR2:=Zh hr;have R2:=Zh (Zb R1.out hf (non _));have Q2:=Zh (Zb Q1.out hf (non _));have F2:=Zh (F1.out.trans hf);have hz2:=hf.size;clear hf hr HL HTL;obtain⟨W3,HW3⟩:∃W3,W3=(((w2.alloc (.cells #[.int .i64 0,.int .i64 0] 34)).alloc (.cells #[.slice A ts.length c,.int .i64 0,.int .i64 0,.int .i64 0] 168)).alloc (.cells #[.pointer (some ⟨w2.heap.size+1,0,none⟩),.int .i64 0] 170)).alloc (.cells #[.slice none 0 0] 24):=⟨_,rfl⟩;have hf:Fr Non w2 W3:=by rw[HW3];exact((((Zf w2).alloc _).alloc _).alloc _).alloc _
 have E3:=Zh (show W3.heap[w2.heap.size+1]? =some (.cells #[.slice A ts.length c,.int .i64 0,.int .i64 0,.int .i64 0] 168 (0,0)) by rw[HW3];exact blk_old (blk_old (blk_new' (by simp) _ _)));have B3:=Zh (show W3.heap[w2.heap.size+1+1]? =some (.cells #[.pointer (some ⟨w2.heap.size+1,0,none⟩),.int .i64 0] 170 (0,0)) by rw[HW3];exact blk_old (blk_new' (by simp) _ _));have S3:=Zh (show W3.heap[w2.heap.size+1+1+1]? =some (.cells #[.slice none 0 0] 24 (0,0)) by rw[HW3];exact blk_new' (by simp) _ _);have R3:=Zh (Zb R2.out hf (non _));have Q3:=Zh (Zb Q2.out hf (non _));have F3:=Zh (F2.out.trans hf);have H3:=Zh (show PsAt (New W1.heap.size w2) ts A c (w2.heap.size+1) (w2.heap.size+1+1) W3 0 0 from⟨⟨E3.out,TR2.out.fr hf (fun _ _=>non _) fun _ h=>h,fun q hq=>by have:=hq.2;omega,hlen,Nat.zero_le _⟩,B3.out,by omega,fun q hq=>by have:=hq.2;omega⟩);clear hf;have hz3:=blk_lt S3.out;have HOK:=Zh (show∀q,New W1.heap.size w2 q→q<w2.heap.size from fun q hq=>hq.2);go_upto_region 6 with fail;rw[←HW3];clear HW3;have o1:w2.heap.size<w2.heap.size+1:=by omega
 have o2:w2.heap.size+1<w2.heap.size+1+1:=by omega
 have o3:w2.heap.size+1+1<w2.heap.size+1+1+1:=by omega
 generalize hq3:w2.heap.size+1+1+1=q3 at*;generalize hbp:w2.heap.size+1+1=bp at*;generalize hbe:w2.heap.size+1=be at*;clear hq3 hbp hbe;have hps:∀q,q≤w2.heap.size→¬PS be bp q:=fun q hq hp=>by rcases hp with hp|hp<;>omega
 have hpq:¬PS be bp q3:=fun hp=>by rcases hp with hp|hp<;>omega
 have hpB:∀q,q3+1≤q→¬PS be bp q:=fun q hq hp=>by rcases hp with hp|hp<;>omega
 go_loopw [] (fun wz=>∃(g1:Nat) (pq:List Fu) (n1 i1:Nat) (A1:Option Addr) (c1:Nat),fnsQ ts g1 pq n1 i1=some xs∧pq.length≤16∧pq.length≤c1∧PsAt (New W1.heap.size w2) ts A c be bp wz i1 n1∧wz.heap[q3]? =some (.cells #[.slice A1 pq.length c1] 24 (0,0))∧wz.heap[w.heap.size]? =some (.cells #[.slice none 0 0] 24 (0,0))∧wz.heap[w.heap.size+1]? =some (.cells #[.int .i64 0,.int .i64 0] 34 (0,0))∧Own (q3+1) 53 5 wz (.slice A1 pq.length c1) (pq.map Fu.d)∧Fr Non w wz) (fun wz=>17-progLen q3 wz)
 case atStart=>exact⟨20,[],0,0,none,0,HX.out,by simp,by simp,H3.out,S3.out,R3.out,Q3.out,Own.nil _ _ _ _,F3.out⟩
 case round=>
  obtain⟨g1,pq,n1,i1,A1,c1,hq,hl16,hlc,hps4,hS,hR,hQ,hO,hF⟩:=hrel;obtain⟨w4,rfl⟩:∃w4:World,w4=wr:=⟨_,rfl⟩;have H4:=Zh hps4;have S4:=Zh hS;have R4:=Zh hR;have Q4:=Zh hQ;have O4:=Zh hO;have F4:=Zh hF
  have hz4:=blk_lt hS;clear hps4 hS hR hQ hO hF;cases g1 with
  |zero=>rw[fnsQ] at hq;cases hq
  |succ g1=>
  rw[fnsQ] at hq;split at hq
  case isFalse=>cases hq
  case isTrue hi1=>
  rw[getD_at hi1] at hq;go_wp2_with fail;refine(pfine_any (New W1.heap.size w2) ts A c be bp w4 i1 n1 H4.out).mono ?_;rintro e wq ⟨rfl,rfl⟩;have p0:=(Zc H4.out.blk).1 0 _ rfl;by_cases hk5:ts[i1].kind.toNat=5
  ·rw[if_pos hk5] at hq;simp only[Option.some.injEq] at hq;subst hq;have hk5n:(((ts[i1].kind.toNat:Nat):Int)!=5)=false:=by rw[bne_eq_false_iff_eq];omega
   go_wp2_with fail;refine(look_any (New W1.heap.size w2) ts A c be w4 i1 H4.out.eye hi1).mono ?_;rintro e w9 ⟨rfl,hf⟩;have hfk:=field_kind ts[i1];unfold Tk.v;clear hk5;generalize ts[i1]=tj at*;have H9:=Zh (H4.out.stay hf);have S9:=Zh (Zb S4.out hf (non _));have R9:=Zh (Zb R4.out hf (non _));have Q9:=Zh (Zb Q4.out hf (non _));have F9:=Zh (F4.out.trans hf);have P9:=Zh (show RdRows (New (q3+1) w9) w9 5 A1 0 (pq.map Fu.d) from(O4.out.fr hf (fun _ _=>non _)).rows);clear hf p0;go_wp2_with fail;refine(pfine_any (New W1.heap.size w2) ts A c be bp w9 i1 n1 H9.out).mono ?_;rintro e wq ⟨rfl,rfl⟩;have l0:=(Zc S9.out).1 0 _ rfl;have r0:=(Zc R9.out).1 0 _ rfl;have rf:=(Zc R9.out).2;have q0:=(Zc Q9.out).1 0 _ rfl;have q1:=(Zc Q9.out).1 1 _ rfl;have qf:=(Zc Q9.out).2;go_wp2_with fail;have hfz:Fr (fun q=>q=w.heap.size∨q=w.heap.size+1) w9 (((w9.setCell ⟨w.heap.size,0,none⟩ (.slice A1 pq.length c1)).setCell ⟨w.heap.size+1,0,none⟩ (.int .i64 0)).setCell ⟨w.heap.size+1,1,none⟩ (.int .i64 0)):=(((Fr.refl (fun q=>q=w.heap.size∨q=w.heap.size+1) w9).setCell ⟨w.heap.size,0,none⟩ _ (.inl (.inl rfl))).setCell ⟨w.heap.size+1,0,none⟩ _ (.inl (.inr rfl))).setCell ⟨w.heap.size+1,1,none⟩ _ (.inl (.inr rfl));have hfa:Fr (fun q=>q=w.heap.size+1) (w9.setCell ⟨w.heap.size,0,none⟩ (.slice A1 pq.length c1)) (((w9.setCell ⟨w.heap.size,0,none⟩ (.slice A1 pq.length c1)).setCell ⟨w.heap.size+1,0,none⟩ (.int .i64 0)).setCell ⟨w.heap.size+1,1,none⟩ (.int .i64 0)):=((Fr.refl (fun q=>q=w.heap.size+1) _).setCell ⟨w.heap.size+1,0,none⟩ _ (.inl rfl)).setCell ⟨w.heap.size+1,1,none⟩ _ (.inl rfl);have hrz:(((w9.setCell ⟨w.heap.size,0,none⟩ (.slice A1 pq.length c1)).setCell ⟨w.heap.size+1,0,none⟩ (.int .i64 0)).setCell ⟨w.heap.size+1,1,none⟩ (.int .i64 0)).heap[w.heap.size]? =some (.cells #[.slice A1 pq.length c1] 24 (0,0)):=Zb (blk_set R9.out 0 (.slice A1 pq.length c1)) hfa (by omega);have hqa:(w9.setCell ⟨w.heap.size,0,none⟩ (.slice A1 pq.length c1)).heap[w.heap.size+1]? =some (.cells #[.int .i64 0,.int .i64 0] 34 (0,0)):=Zb Q9.out ((Fr.refl (fun q=>q=w.heap.size) w9).setCell ⟨w.heap.size,0,none⟩ _ (.inl rfl)) (by omega);have hqz:(((w9.setCell ⟨w.heap.size,0,none⟩ (.slice A1 pq.length c1)).setCell ⟨w.heap.size+1,0,none⟩ (.int .i64 0)).setCell ⟨w.heap.size+1,1,none⟩ (.int .i64 0)).heap[w.heap.size+1]? =some (.cells #[.int .i64 0,.int .i64 0] 34 (0,0)):=blk_set (blk_set hqa 0 _) 1 _;have HFZ:=Zh hfz;clear l0 r0 rf q0 q1 qf hfa hqa hfz;generalize (((w9.setCell ⟨w.heap.size,0,none⟩ (.slice A1 pq.length c1)).setCell ⟨w.heap.size+1,0,none⟩ (.int .i64 0)).setCell ⟨w.heap.size+1,1,none⟩ (.int .i64 0))=wz at*;have r0:=(Zc hrz).1 0 _ rfl;have q0:=(Zc hqz).1 0 _ rfl;have q1:=(Zc hqz).1 1 _ rfl;clear hrz hqz;refine bodyPost_ret (v:=.tuple #[.agg #[.slice A1 pq.length c1],.agg #[.int .i64 0,.int .i64 0]]) (by simp[results,Tryz.results85,go_sem,r0,q0,q1]) rfl ⟨_,_,rfl,hlc,F9.out.then HFZ.out fun k hk e=>by rcases e with e|e<;>omega,?_⟩;exact P9.out.fr HFZ.out (fun q hq e=>by have:=hq.1;rcases e with e|e<;>omega) fun k hk=>⟨by have:=hk.1;omega,Nat.lt_of_lt_of_le hk.2 HFZ.out.size⟩
  ·rw[if_neg hk5] at hq;split at hq
   case isFalse=>cases hq
   case isTrue hc8=>
   obtain⟨hl9,t1⟩:=hc8;cases hfn:fnQ ts n1 (i1+1) with
   |none=>rw[hfn] at hq;cases hq
   |some r=>
   obtain⟨y,n',j⟩:=r;rw[hfn,Option.bind_some] at hq;have T1:=Zh t1;have HFN:=Zh hfn;have HQ:=Zh hq;clear t1 hfn hq
   have hk5n:(((ts[i1].kind.toNat:Nat):Int)!=5)=true:=by rw[bne_iff_ne];omega
   have hne16:((pq.length:Int)==16)=false:=by rw[beq_eq_false_iff_ne];omega
   go_wp2_with fail;refine(look_any (New W1.heap.size w2) ts A c be w4 i1 H4.out.eye hi1).mono ?_;rintro e w6 ⟨rfl,hf⟩;have hfk:=field_kind ts[i1];unfold Tk.v;clear hk5;generalize ts[i1]=t0 at*;have H6:=Zh (H4.out.stay hf);have S6:=Zh (Zb S4.out hf (non _));have R6:=Zh (Zb R4.out hf (non _));have Q6:=Zh (Zb Q4.out hf (non _));have F6:=Zh (F4.out.trans hf);have O6:=Zh (O4.out.fr hf (fun _ _=>non _));have hz6:=hf.size;clear hf p0;have s0:=(Zc S6.out).1 0 _ rfl;go_wp2_with fail;refine(eword_any (New W1.heap.size w2) ts A c be bp w6 i1 n1 ⟨#[102,110]⟩ H6.out hi1).mono ?_;rintro e w5 ⟨rfl,hf,h⟩;rw[show tkK ts 2 ⟨#[102,110]⟩ i1=true from T1.out];rw[eyeI_t (show tkK ts 2 ⟨#[102,110]⟩ i1=true from T1.out)] at h;have H5:=Zh h;have S5:=Zh (Zb S6.out hf hpq);have R5:=Zh (Zb R6.out hf (hps _ (by omega)));have Q5:=Zh (Zb Q6.out hf (hps _ (by omega)));have F5:=Zh (F6.out.then hf fun k hk hp=>by rcases hp with hp|hp<;>omega);have O5:=Zh (O6.out.fr hf (fun k hk=>hpB k hk));have hz5:=hf.size;clear hf h s0 hfk hk5n hne16;have s0:=(Zc S5.out).1 0 _ rfl;have sf:=(Zc S5.out).2;have HV:=Zh O5.out.lt;have hBW:q3+1≤w5.heap.size:=by omega
   have HCE:=Zh (qfunc_any (New W1.heap.size w2) ts A c be bp w5.drew (i1+1) n1 y n' j (H5.out.stay (Zf w5).drew) (fun q hq=>by have:=HOK.out q hq;show q<w5.heap.size;omega) HFN.out);go_upto_region 11 with fail
   go_region_law (first|(refine step_fu rfl (.tmp 71) (.tmp 74) rfl (q3+1) w5.heap.size (.slice A1 pq.length c1) pq y B1 B2 B3 d1 d2 d3 rfl O8 hr8 (fun k hk=>(HV.out k hk).2) hBW hw8 rfl (by omega) (pq.length+1) rfl ?_;intro A7 c7 w9 hc7 hown7 hf7;have hb7:=Zb hb8 hf7 (fun e=>by have:=e.1;omega);have s0:=(Zc hb7).1 0 _ rfl;have sf:=(Zc hb7).2)|(go_simp;go_at_call 125;refine HCE.out.mono ?_;rintro e w8 ⟨B1,B2,B3,d1,d2,d3,rfl,hf8,h8,hr8⟩;have hb8:=Zb (Zb S5.out (Zf w5).drew (non _)) hf8 hpq;have s0:=(Zc hb8).1 0 _ rfl;have sf:=(Zc hb8).2;have s0a:=((Zf w8).alloc (.cells #[.string y.name,.slice B1 y.params.length d1,.slice B2 y.body.length d2,.bool y.sec,.slice B3 y.ret.length d3] 53)).cell' s0 (non _);have O8:=(O5.out.fr (Zf w5).drew (fun _ _=>non _)).fr hf8 (fun k hk=>hpB k hk);have hw8:w5.heap.size≤w8.heap.size:=hf8.size))
   all_goals
    have hb9:=blk_set hb7 0 (.slice A7 (pq.length+1) c7);have hf9:Fr (fun q=>q3≤q) w8 (w9.setCell ⟨q3,0,none⟩ (.slice A7 (pq.length+1) c7)):=(hf7.mono fun _ _ h=>Nat.le_of_lt h.1).setCell _ _ (.inl (Nat.le_refl _));have HZ9:=Zh (h8.away hf9 (by omega) (by omega) (fun q hq e=>by have:=HOK.out q hq;omega));have RR:=Zh (Zb (Zb (Zb R5.out (Zf w5).drew (non _)) hf8 (hps _ (by omega))) hf9 (by omega));have QQ:=Zh (Zb (Zb (Zb Q5.out (Zf w5).drew (non _)) hf8 (hps _ (by omega))) hf9 (by omega));have OO:=Zh (hown7.fr ((Fr.refl (fun q=>q=q3) w9).setCell ⟨q3,0,none⟩ (.slice A7 (pq.length+1) c7) (.inl rfl)) (fun k hk e=>by have e:k=q3:=e;omega));have FF:=Zh (((F5.out.trans (Zf w5).drew).then hf8 fun k hk hp=>by rcases hp with hp|hp<;>omega).then hf9 (S:=Non) (fun k hk e=>by have e:q3≤k:=e;omega));have BB:=Zh (show(w9.setCell ⟨q3,0,none⟩ (.slice A7 (pq.length+1) c7)).heap[q3]? =some (.cells #[.slice A7 (pq.length+1) c7] 24 (0,0)) from hb9);have hx1:=progLen_at S4.out;have hx2:=progLen_at BB.out;clear s0 s0a sf hf8 h8 hf7 hf9 hown7 hb7 hb8 hb9 O8 hr8;generalize w9.setCell ⟨q3,0,none⟩ (.slice A7 (pq.length+1) c7)=wn at*;clear w9;go_wp2_with fail;go_roundw
    case rel=>exact⟨g1,pq++[y],n',j,A7,c7,HQ.out,by simp;omega,by simpa using hc7,HZ9.out,by simpa using BB.out,RR.out,QQ.out,by simpa using OO.out,FF.out⟩
    case measure=>rw[hx1,hx2];omega
theorem qparsed_any (s:ByteArray) (xs:List Fu) (w:World) (hx:parseQ s=some xs):
  Calls Tryz.prog 55 #[.string s] w fun e w'=>∃A c,e= .returned (.agg #[.slice A xs.length c])∧xs.length≤c∧Fr Non w w'∧RdRows (New w.heap.size w') w' 5 A 0 (xs.map Fu.d):=by
 obtain⟨W1,HW1⟩:∃W1,W1=w.alloc (.cells #[.slice none 0 0] 24):=⟨_,rfl⟩;have hf1:Fr Non w W1:=by rw[HW1];exact(Zf w).alloc _
 have R1:=Zh (show W1.heap[w.heap.size]? =some (.cells #[.slice none 0 0] 24 (0,0)) by rw[HW1];exact blk_new _ _ _);have F1:=Zh hf1;clear hf1;have hz1:=blk_lt R1.out;go_enter Tryz.func55,Tryz.ntmps55;go_upto_region 1 with fail;rw[←HW1];clear HW1;go_wp2_with fail;refine(qparse_any s xs W1 hx).mono ?_;rintro e w2 ⟨A,c,rfl,hc,hf,hr⟩;have R2:=Zh (Zb R1.out hf (non _));have F2:=Zh (F1.out.trans hf);have X2:=Zh hr;have hz2:=hf.size;clear hf hr;have r0:=(Zc R2.out).1 0 _ rfl;have rf:=(Zc R2.out).2;have hlt:w.heap.size<w2.heap.size:=blk_lt R2.out;go_wp2_with fail;have hfz:Fr (fun q=>q=w.heap.size) w2 (((w2.setCell ⟨w.heap.size,0,none⟩ (.slice A xs.length c)).alloc (.cells #[.slice A xs.length c] 24)).alloc (.cells #[.int .i64 0,.int .i64 0] 34)):=(((Fr.refl (fun q=>q=w.heap.size) w2).setCell ⟨w.heap.size,0,none⟩ _ (.inl rfl)).alloc _).alloc _;have hrz:(((w2.setCell ⟨w.heap.size,0,none⟩ (.slice A xs.length c)).alloc (.cells #[.slice A xs.length c] 24)).alloc (.cells #[.int .i64 0,.int .i64 0] 34)).heap[w.heap.size]? =some (.cells #[.slice A xs.length c] 24 (0,0)):=blk_old (blk_old (blk_set R2.out 0 _));have HFZ:=Zh hfz;clear r0 rf hfz;generalize (((w2.setCell ⟨w.heap.size,0,none⟩ (.slice A xs.length c)).alloc (.cells #[.slice A xs.length c] 24)).alloc (.cells #[.int .i64 0,.int .i64 0] 34))=wz at*;have r0:=(Zc hrz).1 0 _ rfl;clear hrz;refine bodyPost_ret (v:=.agg #[.slice A xs.length c]) (by simp[results,Tryz.results55,go_sem,r0]) rfl ⟨_,_,rfl,hc,F2.out.then HFZ.out fun k hk e=>by have e:k=w.heap.size:=e;omega,?_⟩;exact X2.out.fr HFZ.out (fun q hq e=>by have:=hq.1;have e:q=w.heap.size:=e;omega) fun k hk=>⟨by have:=hk.1;omega,Nat.lt_of_lt_of_le hk.2 HFZ.out.size⟩
section
abbrev Nm.v (x:Nm):Value:=.agg #[.bool x.buf,.bool x.sec,.bool x.mt,.bool x.own,.bool x.set,.bool x.gone,.int .i64 x.lent,.int .i64 x.loops]
def nvs (l:NL):List (ByteArray×Value):=l.map fun p=>(p.1,p.2.v)
theorem mhas_nvs (l:NL) (s:ByteArray):mhas (nvs l) s=nhas l s:=by simp[mhas,nvs,nhas,List.any_map,Function.comp_def]
theorem mget_nvs (l:NL) (s:ByteArray):mget (nvs l) s Nm.zero.v=(nget l s).v:=by
 rw[mget,nget,nvs,List.find?_map];show((Option.map _ (l.find? fun p=>sq p.1 s)).map _).getD _=_
 cases l.find? fun p=>sq p.1 s<;>rfl
theorem mput_nvs (l:NL) (s:ByteArray) (x:Nm):mput (nvs l) s x.v=nvs (nput l s x):=by
 rw[mput,nput,mhas_nvs];split
 ·rw[mset,nset,nvs,nvs,List.map_map,List.map_map];apply List.map_congr_left;intro p _;simp only[Function.comp];split<;>rfl
 ·simp[nvs]
theorem mdel_nvs (l:NL) (s:ByteArray):mdel (nvs l) s=nvs (ndel l s):=by
 simp[mdel,nvs,ndel,List.filter_map,Function.comp_def]
theorem undNm:Tryz.prog.underlying 99=some (.map 9 104):=by kernel_rfl
theorem zeroNm (w:World):(zeroValue 104).run Tryz.prog w= .ok Nm.zero.v w:=by kernel_rfl
structure EvAt (base b:Nat) (PV:Value) (ru:Int) (F:Nat) (w:World) (a:Ev) (bk:Nat):Prop where
 blk:w.heap[b]? =some (.cells #[PV,.int .u8 ru,.int .i64 F,.int .i64 a.n,.int .i64 a.loops,.map (some bk)] 101 (0,0))
 nm:MapS w bk (nvs a.nm)
 hb:base≤b
 hk:base≤bk
def ES (b bk:Nat) (k:Nat):Prop:=k=b∨k=bk
section
variable {base b:Nat} {PV:Value} {ru:Int} {F:Nat} {w w':World} {a:Ev} {bk:Nat}
theorem EvAt.fr {S:Nat→Prop} (h:EvAt base b PV ru F w a bk) (hf:Fr S w w') (hs:∀k,ES b bk k→¬S k):EvAt base b PV ru F w' a bk:=
 ⟨Zb h.blk hf (hs _ (.inl rfl)),h.nm.fr hf (hs _ (.inr rfl)),h.hb,h.hk⟩
theorem EvAt.stay (h:EvAt base b PV ru F w a bk) (hf:Fr Non w w'):EvAt base b PV ru F w' a bk:=h.fr hf fun _ _=>non _
theorem EvAt.ne (h:EvAt base b PV ru F w a bk):bk≠b:=by
 have h1:=h.blk;rintro rfl;obtain⟨es,cl,hb,_⟩:=h.nm;rw[h1] at hb;cases hb
theorem EvAt.lt (h:EvAt base b PV ru F w a bk):∀k,ES b bk k→base≤k∧k<w.heap.size:=fun k hk=>by
 rcases hk with rfl|rfl
 ·exact⟨h.hb,blk_lt h.blk⟩
 ·exact⟨h.hk,h.nm.lt⟩
theorem EvAt.look (h:EvAt base b PV ru F w a bk) (nm:ByteArray):(Instr.lookup 99 (.map (some bk)) (.string nm) false).run Tryz.prog w= .ok (a.g nm).v w:=by
 have:=(h.nm.look undNm undStr zeroNm nm).2;rw[mget_nvs] at this;exact this
end
def UnR (n ru:Int) (ok:Bool) (e:Ending):Prop:=e=if ok then .returned (.tuple #[]) else .panicked [{v:=faultV n (codeOf ru),recovered:=false}]
theorem UnR.t {n ru:Int} {e:Ending} (h:UnR n ru true e):e= .returned (.tuple #[]):=h
theorem UnR.f {n ru:Int} {e:Ending} (h:UnR n ru false e):e= .panicked [{v:=faultV n (codeOf ru),recovered:=false}]:=h
theorem unR_t {n ru:Int} {b:Bool} (h:b=true):UnR n ru b (.returned (.tuple #[])):=by subst h;rfl
theorem unR_f {n ru:Int} {b:Bool} (h:b=false):UnR n ru b (.panicked [{v:=faultV n (codeOf ru),recovered:=false}]):=by subst h;rfl
def VaR (n ru:Int) (ok:Bool) (v:Value) (e:Ending):Prop:=e=if ok then .returned v else .panicked [{v:=faultV n (codeOf ru),recovered:=false}]
theorem VaR.t {n ru:Int} {v:Value} {e:Ending} (h:VaR n ru true v e):e= .returned v:=h
theorem VaR.f {n ru:Int} {v:Value} {e:Ending} (h:VaR n ru false v e):e= .panicked [{v:=faultV n (codeOf ru),recovered:=false}]:=h
theorem vaR_t {n ru:Int} {b:Bool} {v:Value} (h:b=true):VaR n ru b v (.returned v):=by subst h;rfl
theorem vaR_f {n ru:Int} {b:Bool} {v:Value} (h:b=false):VaR n ru b v (.panicked [{v:=faultV n (codeOf ru),recovered:=false}]):=by subst h;rfl
theorem eunl_any (b:Nat) (w:World) (n ru r:Int) (is:Bool) (er:Int) (h1:w.cell? ⟨b,1,none⟩=some (.int .u8 ru)) (h3:w.cell? ⟨b,3,none⟩=some (.int .i64 n)) (he:er=codeOf r):
  Calls Tryz.prog 135 #[.pointer (some ⟨b,0,none⟩),.int .u8 r,.bool is,.int .i64 er] w fun e w'=>UnR n ru (chk ru r is) e∧w=w':=by
 have HE:=Zh he;clear he;by_cases h:r=ru
 ·subst h;have HC:=Zh (show chk r r is=is by simp[chk]);have h':(r==r)=true:=by simp
  cases is with
  |true=>
   go_enter Tryz.func135,Tryz.ntmps135;go_wp2_with fail
   go_end0
   exact⟨unR_t HC.out,rfl⟩
  |false=>
   go_enter Tryz.func135,Tryz.ntmps135;go_wp2_with fail;refine⟨rfl,?_,rfl⟩;rw[HE.out];exact unR_f HC.out
 ·have HC:=Zh (show chk ru r is=true by rw[chk,show(r==ru)=false by simp[h]];rfl);have h':(r==ru)=false:=by simp[h]
  clear h;go_enter Tryz.func135,Tryz.ntmps135;go_wp2_with fail
  go_end0
  exact⟨unR_t HC.out,rfl⟩
theorem ekind_any (base b:Nat) (PV:Value) (ru:Int) (F:Nat) (w:World) (a:Ev) (bk:Nat) (is:Bool) (h:EvAt base b PV ru F w a bk):
  Calls Tryz.prog 127 #[.pointer (some ⟨b,0,none⟩),.bool is] w fun e w'=>UnR a.n ru (chk ru 1 is) e∧w=w':=by
 have b1:=(Zc h.blk).1 1 _ rfl;have b3:=(Zc h.blk).1 3 _ rfl;have H:=Zh (eunl_any b w a.n ru 1 is 8 b1 b3 rfl);clear h b1 b3;go_enter Tryz.func127,Tryz.ntmps127;go_wp2_with fail;refine H.out.mono ?_;rintro e w' ⟨he,rfl⟩;cases hc:chk ru 1 is with
 |true=>
  rw[hc] at he;obtain rfl:=he.t;clear he;have HC:=Zh hc;clear hc;go_wp2_with fail
  go_end0
  exact⟨unR_t HC.out,rfl⟩
 |false=>
  rw[hc] at he;obtain rfl:=he.f;clear he;have HC:=Zh hc;clear hc;go_wp2_with fail;exact⟨rfl,unR_f HC.out,rfl⟩
theorem eclear_any (base b:Nat) (PV:Value) (ru:Int) (F:Nat) (w:World) (a:Ev) (bk:Nat) (is:Bool) (h:EvAt base b PV ru F w a bk):
  Calls Tryz.prog 100 #[.pointer (some ⟨b,0,none⟩),.bool is] w fun e w'=>UnR a.n ru (chk ru 2 is) e∧w=w':=by
 have b1:=(Zc h.blk).1 1 _ rfl;have b3:=(Zc h.blk).1 3 _ rfl;have H:=Zh (eunl_any b w a.n ru 2 is 120 b1 b3 rfl);clear h b1 b3;go_enter Tryz.func100,Tryz.ntmps100;go_wp2_with fail;refine H.out.mono ?_;rintro e w' ⟨he,rfl⟩;cases hc:chk ru 2 is with
 |true=>
  rw[hc] at he;obtain rfl:=he.t;clear he;have HC:=Zh hc;clear hc;go_wp2_with fail
  go_end0
  exact⟨unR_t HC.out,rfl⟩
 |false=>
  rw[hc] at he;obtain rfl:=he.f;clear he;have HC:=Zh hc;clear hc;go_wp2_with fail;exact⟨rfl,unR_f HC.out,rfl⟩
theorem efree_any (base b:Nat) (PV:Value) (ru:Int) (F:Nat) (w:World) (a:Ev) (bk:Nat) (is:Bool) (h:EvAt base b PV ru F w a bk):
  Calls Tryz.prog 132 #[.pointer (some ⟨b,0,none⟩),.bool is] w fun e w'=>UnR a.n ru (chk ru 3 is) e∧w=w':=by
 have b1:=(Zc h.blk).1 1 _ rfl;have b3:=(Zc h.blk).1 3 _ rfl;have H:=Zh (eunl_any b w a.n ru 3 is 130 b1 b3 rfl);clear h b1 b3;go_enter Tryz.func132,Tryz.ntmps132;go_wp2_with fail;refine H.out.mono ?_;rintro e w' ⟨he,rfl⟩;cases hc:chk ru 3 is with
 |true=>
  rw[hc] at he;obtain rfl:=he.t;clear he;have HC:=Zh hc;clear hc;go_wp2_with fail
  go_end0
  exact⟨unR_t HC.out,rfl⟩
 |false=>
  rw[hc] at he;obtain rfl:=he.f;clear he;have HC:=Zh hc;clear hc;go_wp2_with fail;exact⟨rfl,unR_f HC.out,rfl⟩
theorem ethere_any (base b:Nat) (PV:Value) (ru:Int) (F:Nat) (w:World) (a:Ev) (bk:Nat) (is:Bool) (h:EvAt base b PV ru F w a bk):
  Calls Tryz.prog 133 #[.pointer (some ⟨b,0,none⟩),.bool is] w fun e w'=>UnR a.n ru (chk ru 4 is) e∧w=w':=by
 have b1:=(Zc h.blk).1 1 _ rfl;have b3:=(Zc h.blk).1 3 _ rfl;have H:=Zh (eunl_any b w a.n ru 4 is 140 b1 b3 rfl);clear h b1 b3;go_enter Tryz.func133,Tryz.ntmps133;go_wp2_with fail;refine H.out.mono ?_;rintro e w' ⟨he,rfl⟩;cases hc:chk ru 4 is with
 |true=>
  rw[hc] at he;obtain rfl:=he.t;clear he;have HC:=Zh hc;clear hc;go_wp2_with fail
  go_end0
  exact⟨unR_t HC.out,rfl⟩
 |false=>
  rw[hc] at he;obtain rfl:=he.f;clear he;have HC:=Zh hc;clear hc;go_wp2_with fail;exact⟨rfl,unR_f HC.out,rfl⟩
theorem blk_put8 {w:World} {g:Nat} {a0 a1 a2 a3 a4 a5 a6 a7:Value} {T:TypeId} (h:w.heap[g]? =some (.cells #[a0,a1,a2,a3,a4,a5,a6,a7] T (0,0))) (v0 v1 v2 v3 v4 v5 v6 v7:Value):
  ((((((((w.setCell ⟨g,0,none⟩ v0).setCell ⟨g,1,none⟩ v1).setCell ⟨g,2,none⟩ v2).setCell ⟨g,3,none⟩ v3).setCell ⟨g,4,none⟩ v4).setCell ⟨g,5,none⟩ v5).setCell ⟨g,6,none⟩ v6).setCell ⟨g,7,none⟩ v7).heap[g]? =some (.cells #[v0,v1,v2,v3,v4,v5,v6,v7] T (0,0)):=by
 have h0:(w.setCell ⟨g,0,none⟩ v0).heap[g]? =some (.cells #[v0,a1,a2,a3,a4,a5,a6,a7] T (0,0)):=blk_set h 0 v0;have h1:((w.setCell ⟨g,0,none⟩ v0).setCell ⟨g,1,none⟩ v1).heap[g]? =some (.cells #[v0,v1,a2,a3,a4,a5,a6,a7] T (0,0)):=blk_set h0 1 v1;have h2:(((w.setCell ⟨g,0,none⟩ v0).setCell ⟨g,1,none⟩ v1).setCell ⟨g,2,none⟩ v2).heap[g]? =some (.cells #[v0,v1,v2,a3,a4,a5,a6,a7] T (0,0)):=blk_set h1 2 v2;have h3:((((w.setCell ⟨g,0,none⟩ v0).setCell ⟨g,1,none⟩ v1).setCell ⟨g,2,none⟩ v2).setCell ⟨g,3,none⟩ v3).heap[g]? =some (.cells #[v0,v1,v2,v3,a4,a5,a6,a7] T (0,0)):=blk_set h2 3 v3;have h4:(((((w.setCell ⟨g,0,none⟩ v0).setCell ⟨g,1,none⟩ v1).setCell ⟨g,2,none⟩ v2).setCell ⟨g,3,none⟩ v3).setCell ⟨g,4,none⟩ v4).heap[g]? =some (.cells #[v0,v1,v2,v3,v4,a5,a6,a7] T (0,0)):=blk_set h3 4 v4;have h5:((((((w.setCell ⟨g,0,none⟩ v0).setCell ⟨g,1,none⟩ v1).setCell ⟨g,2,none⟩ v2).setCell ⟨g,3,none⟩ v3).setCell ⟨g,4,none⟩ v4).setCell ⟨g,5,none⟩ v5).heap[g]? =some (.cells #[v0,v1,v2,v3,v4,v5,a6,a7] T (0,0)):=blk_set h4 5 v5;have h6:(((((((w.setCell ⟨g,0,none⟩ v0).setCell ⟨g,1,none⟩ v1).setCell ⟨g,2,none⟩ v2).setCell ⟨g,3,none⟩ v3).setCell ⟨g,4,none⟩ v4).setCell ⟨g,5,none⟩ v5).setCell ⟨g,6,none⟩ v6).heap[g]? =some (.cells #[v0,v1,v2,v3,v4,v5,v6,a7] T (0,0)):=blk_set h5 6 v6;exact blk_set h6 7 v7
theorem fr_put8 {g:Nat} {w:World} {S:Nat→Prop} (hs:S g) (v0 v1 v2 v3 v4 v5 v6 v7:Value):
  Fr S w ((((((((w.setCell ⟨g,0,none⟩ v0).setCell ⟨g,1,none⟩ v1).setCell ⟨g,2,none⟩ v2).setCell ⟨g,3,none⟩ v3).setCell ⟨g,4,none⟩ v4).setCell ⟨g,5,none⟩ v5).setCell ⟨g,6,none⟩ v6).setCell ⟨g,7,none⟩ v7):=
 ((((((((Fr.refl S w).setCell _ _ (.inl hs)).setCell _ _ (.inl hs)).setCell _ _ (.inl hs)).setCell _ _ (.inl hs)).setCell _ _ (.inl hs)).setCell _ _ (.inl hs)).setCell _ _ (.inl hs)).setCell _ _ (.inl hs)
end
end Go.Proofs.YtpkpgmnbheenbaaGreatDoor
