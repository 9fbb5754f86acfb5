/- Contracts and laws, Mg16 -/
import Derived.Test.YtpkpgmnbheenbaaGreatDoorMg01
import Derived.Test.YtpkpgmnbheenbaaGreatDoorMg03
import Derived.Test.YtpkpgmnbheenbaaGreatDoorMg04
import Derived.Test.YtpkpgmnbheenbaaGreatDoorMg07
import Derived.Test.YtpkpgmnbheenbaaGreatDoorMg08
import Derived.Test.YtpkpgmnbheenbaaGreatDoorMg15
import Derived.Deep.DeepCutAuto
import Derived.Deep.CutBlock
import Derived.Deep.RegionLaw
import Derived.Outline
import Derived.Deep.RegionWith
namespace Go.Proofs.YtpkpgmnbheenbaaGreatDoor
open Go.RowKit
set_option linter.unusedVariables false
set_option linter.unusedSimpArgs false
set_option maxHeartbeats 8000000
set_option maxRecDepth 100000
theorem field_kind (t:Tk) (w:World):Sem.run Tryz.prog (Instr.field 172 (.agg #[vu8 t.kind,.string t.text,vu64 t.num,.int .i64 t.at_]) 0) w= .ok (vu8 t.kind) w:=by
 kernel_rfl
def fnsQ (ts:List Tk):Nat→List Fu→Nat→Nat→Option (List Fu)
 |0,_,_,_=>none
 |g+1,l,n,i=>if i<ts.length then
   (if(ts.getD i Tk.zero).kind.toNat=5 then some l
    else if l.length<16∧tkK ts 2 wFn i=true then(fnQ ts n (i+1)).bind fun r=>fnsQ ts g (l++[r.1]) r.2.1 r.2.2 else none)
  else none
def parseQ (s:ByteArray):Option (List Fu):=
 if s.size≤16384 then(cutS s (s.size+1) 0).bind fun L=>if(L++[endTk s]).length≤20000 then fnsQ (L++[endTk s]) 20 [] 0 0 else none
 else none
def progLen (q:Nat) (w:World):Nat:=match w.cell? ⟨q,0,none⟩ with
 |some (.slice _ n _)=>n
 |_=>0
theorem progLen_at {q:Nat} {w:World} {A:Option Addr} {n c:Nat} {T:TypeId} (h:w.heap[q]? =some (.cells #[.slice A n c] T (0,0))):progLen q w=n:=by
 have:=(Zc h).1 0 _ rfl;simp[progLen,this]
theorem step_fu {ops:Array Oper} {o:Oper} {a:Act} {K:Act→World→Prop} {Q:Exit→Act→World→Prop} {E:Prop} {w:World} (hgd:o.guard=none) (s x:Operand)
  (ho:o.op= .call {callee:=.builtin .append,args:=#[s,x],argTypes:=#[22,22]})
  (base w0:Nat) (v:Value) (l:List Fu) (y:Fu) (A1 A2 A3:Option Addr) (c1 c2 c3:Nat) (hs:a.eval s=v) (hown:Own base 53 5 w v (l.map Fu.d))
  (hr:FuRq (New w0 w) w y A1 A2 A3 c1 c2 c3) (hv:∀k,v.ownBlock=some k→k<w0) (hw0:base≤w0) (hw1:w0≤w.heap.size)
  (hx:a.eval x= .slice (some ⟨w.heap.size,0,none⟩) 1 1) (hn:l.length≤1000) (n1:Nat) (hn1:l.length+1=n1)
  (h:∀A7 c7 w7,n1≤c7→Own base 53 5 w7 (.slice A7 n1 c7) ((l++[y]).map Fu.d)→Fr (fun k=>base≤k∧v.ownBlock=some k) w w7→K (a.put o.dst (.slice A7 n1 c7)) w7):
  if Region.wanted o (yielded ops a.tmps)=true then Oper.wp Tryz.prog o a (w.alloc (.cells #[.string y.name,.slice A1 y.params.length c1,.slice A2 y.body.length c2,.bool y.sec,.slice A3 y.ret.length c3] 53)) K Q else E:=by
 subst hn1;have hfa:Fr Non w (w.alloc (.cells #[.string y.name,.slice A1 y.params.length c1,.slice A2 y.body.length c2,.bool y.sec,.slice A3 y.ret.length c3] 53)):=(Zf w).alloc _;have hlen:(l.map Fu.d).length=l.length:=List.length_map _;have hk:∀q,New w0 w q→okOwn base (w.alloc (.cells #[.string y.name,.slice A1 y.params.length c1,.slice A2 y.body.length c2,.bool y.sec,.slice A3 y.ret.length c3] 53)) v q:=fun q hq=>⟨Nat.le_trans hw0 hq.1,by have:=hq.2;simp;omega,fun e=>by have:=hv q e;have:=hq.1;omega⟩;refine step_own (z:=fuZ) (size:=5) (bytes:=96) (by kernel_rfl) (by kernel_rfl) rfl (by decide) (by decide) hgd s x ho base v (l.map Fu.d) hs (hown.fr hfa fun _ _=>non _) ⟨w.heap.size,0,none⟩ 1 hx y.d [.string y.name,.slice A1 y.params.length c1,.slice A2 y.body.length c2,.bool y.sec,.slice A3 y.ret.length c3]
  (chunk_fu y hr.params.1 hr.params.2.1 (hr.params.2.2.fr hfa (fun _ _=>non _) hk) hr.body.1 hr.body.2.1 (hr.body.2.2.fr hfa (fun _ _=>non _) hk) hr.ret.1 hr.ret.2.1 (hr.ret.2.2.fr hfa (fun _ _=>non _) hk)) (new_cells' rfl) (one_fu _ _ _ _ _ _ _ _ _ _ _) (by rw[hlen];exact hn) (by simp;omega) ?_
 intro A7 c7 w7 hc hO hf;rw[hlen] at hc hO ⊢;exact h A7 c7 w7 hc (by rw[List.map_append];exact hO) ((hfa.mono (T:=fun k=>base≤k∧v.ownBlock=some k) fun _ _ h=>h.elim).trans hf)
theorem qparse_any (s:ByteArray) (xs:List Fu) (w:World) (hx:parseQ s=some xs):
  Calls Tryz.prog 85 #[.string s] w fun e w'=>∃A c,e= .returned (.tuple #[.agg #[.slice A xs.length c],.agg #[.int .i64 0,.int .i64 0]])∧xs.length≤c∧Fr Non w w'∧RdRows (New w.heap.size w') w' 5 A 0 (xs.map Fu.d):=by
 rw[parseQ] at hx;split at hx
 case isFalse=>cases hx
 case isTrue hs=>
 cases hL:cutS s (s.size+1) 0 with
 |none=>rw[hL] at hx;cases hx
 |some L=>
 rw[hL,Option.bind_some] at hx;have htl:(L++[endTk s]).length=L.length+1:=by simp
 generalize hts:L++[endTk s]=ts at*;split at hx
 case isFalse=>cases hx
 case isTrue hlen=>
 obtain⟨W1,HW1⟩:∃W1,W1=(w.alloc (.cells #[.slice none 0 0] 24)).alloc (.cells #[.int .i64 0,.int .i64 0] 34):=⟨_,rfl⟩;have hf1:Fr Non w W1:=by rw[HW1];exact((Zf w).alloc _).alloc _
 have R1:=Zh (show W1.heap[w.heap.size]? =some (.cells #[.slice none 0 0] 24 (0,0)) by rw[HW1];exact blk_old (blk_new _ _ _));have Q1:=Zh (show W1.heap[w.heap.size+1]? =some (.cells #[.int .i64 0,.int .i64 0] 34 (0,0)) by rw[HW1];exact blk_new' (by simp) _ _);have F1:=Zh hf1;clear hf1;have HL:=Zh hL;have HTS:=Zh hts;have HTL:=Zh htl;have HX:=Zh hx
 clear hL htl hts hx;have hz1:=blk_lt Q1.out;go_enter Tryz.func85,Tryz.ntmps85;go_upto_region 1 with fail;rw[←HW1];clear HW1;go_wp2_with fail;refine(cut_any s L W1 hs HL.out).mono ?_;rintro e w2 ⟨A,c,rfl,hcl,hf,hr⟩;rw[HTS.out] at hr;rw[←HTL.out] at hcl ⊢;have TR2:=Zh hr;have R2:=Zh (Zb R1.out hf (non _));have Q2:=Zh (Zb Q1.out hf (non _));have F2:=Zh (F1.out.trans hf);have hz2:=hf.size;clear hf hr HL HTL;obtain⟨W3,HW3⟩:∃W3,W3=(((w2.alloc (.cells #[.int .i64 0,.int .i64 0] 34)).alloc (.cells #[.slice A ts.length c,.int .i64 0,.int .i64 0,.int .i64 0] 168)).alloc (.cells #[.pointer (some ⟨w2.heap.size+1,0,none⟩),.int .i64 0] 170)).alloc (.cells #[.slice none 0 0] 24):=⟨_,rfl⟩;have hf:Fr Non w2 W3:=by rw[HW3];exact((((Zf w2).alloc _).alloc _).alloc _).alloc _
 have E3:=Zh (show W3.heap[w2.heap.size+1]? =some (.cells #[.slice A ts.length c,.int .i64 0,.int .i64 0,.int .i64 0] 168 (0,0)) by rw[HW3];exact blk_old (blk_old (blk_new' (by simp) _ _)));have B3:=Zh (show W3.heap[w2.heap.size+1+1]? =some (.cells #[.pointer (some ⟨w2.heap.size+1,0,none⟩),.int .i64 0] 170 (0,0)) by rw[HW3];exact blk_old (blk_new' (by simp) _ _));have S3:=Zh (show W3.heap[w2.heap.size+1+1+1]? =some (.cells #[.slice none 0 0] 24 (0,0)) by rw[HW3];exact blk_new' (by simp) _ _);have R3:=Zh (Zb R2.out hf (non _));have Q3:=Zh (Zb Q2.out hf (non _));have F3:=Zh (F2.out.trans hf);have H3:=Zh (show PsAt (New W1.heap.size w2) ts A c (w2.heap.size+1) (w2.heap.size+1+1) W3 0 0 from⟨⟨E3.out,TR2.out.fr hf (fun _ _=>non _) fun _ h=>h,fun q hq=>by have:=hq.2;omega,hlen,Nat.zero_le _⟩,B3.out,by omega,fun q hq=>by have:=hq.2;omega⟩);clear hf;have hz3:=blk_lt S3.out;have HOK:=Zh (show∀q,New W1.heap.size w2 q→q<w2.heap.size from fun q hq=>hq.2);go_upto_region 6 with fail;rw[←HW3];clear HW3;have o1:w2.heap.size<w2.heap.size+1:=by omega
 have o2:w2.heap.size+1<w2.heap.size+1+1:=by omega
 have o3:w2.heap.size+1+1<w2.heap.size+1+1+1:=by omega
 generalize hq3:w2.heap.size+1+1+1=q3 at*;generalize hbp:w2.heap.size+1+1=bp at*;generalize hbe:w2.heap.size+1=be at*;clear hq3 hbp hbe;have hps:∀q,q≤w2.heap.size→¬PS be bp q:=fun q hq hp=>by rcases hp with hp|hp<;>omega
 have hpq:¬PS be bp q3:=fun hp=>by rcases hp with hp|hp<;>omega
 have hpB:∀q,q3+1≤q→¬PS be bp q:=fun q hq hp=>by rcases hp with hp|hp<;>omega
 go_loopw [] (fun wz=>∃(g1:Nat) (pq:List Fu) (n1 i1:Nat) (A1:Option Addr) (c1:Nat),fnsQ ts g1 pq n1 i1=some xs∧pq.length≤16∧pq.length≤c1∧PsAt (New W1.heap.size w2) ts A c be bp wz i1 n1∧wz.heap[q3]? =some (.cells #[.slice A1 pq.length c1] 24 (0,0))∧wz.heap[w.heap.size]? =some (.cells #[.slice none 0 0] 24 (0,0))∧wz.heap[w.heap.size+1]? =some (.cells #[.int .i64 0,.int .i64 0] 34 (0,0))∧Own (q3+1) 53 5 wz (.slice A1 pq.length c1) (pq.map Fu.d)∧Fr Non w wz) (fun wz=>17-progLen q3 wz)
 case atStart=>exact⟨20,[],0,0,none,0,HX.out,by simp,by simp,H3.out,S3.out,R3.out,Q3.out,Own.nil _ _ _ _,F3.out⟩
 case round=>
  obtain⟨g1,pq,n1,i1,A1,c1,hq,hl16,hlc,hps4,hS,hR,hQ,hO,hF⟩:=hrel;obtain⟨w4,rfl⟩:∃w4:World,w4=wr:=⟨_,rfl⟩;have H4:=Zh hps4;have S4:=Zh hS;have R4:=Zh hR;have Q4:=Zh hQ;have O4:=Zh hO;have F4:=Zh hF
  have hz4:=blk_lt hS;clear hps4 hS hR hQ hO hF;cases g1 with
  |zero=>rw[fnsQ] at hq;cases hq
  |succ g1=>
  rw[fnsQ] at hq;split at hq
  case isFalse=>cases hq
  case isTrue hi1=>
  rw[getD_at hi1] at hq;go_wp2_with fail;refine(pfine_any (New W1.heap.size w2) ts A c be bp w4 i1 n1 H4.out).mono ?_;rintro e wq ⟨rfl,rfl⟩;have p0:=(Zc H4.out.blk).1 0 _ rfl;by_cases hk5:ts[i1].kind.toNat=5
  ·rw[if_pos hk5] at hq;simp only[Option.some.injEq] at hq;subst hq;have hk5n:(((ts[i1].kind.toNat:Nat):Int)!=5)=false:=by rw[bne_eq_false_iff_eq];omega
   go_wp2_with fail;refine(look_any (New W1.heap.size w2) ts A c be w4 i1 H4.out.eye hi1).mono ?_;rintro e w9 ⟨rfl,hf⟩;have hfk:=field_kind ts[i1];unfold Tk.v;clear hk5;generalize ts[i1]=tj at*;have H9:=Zh (H4.out.stay hf);have S9:=Zh (Zb S4.out hf (non _));have R9:=Zh (Zb R4.out hf (non _));have Q9:=Zh (Zb Q4.out hf (non _));have F9:=Zh (F4.out.trans hf);have P9:=Zh (show RdRows (New (q3+1) w9) w9 5 A1 0 (pq.map Fu.d) from(O4.out.fr hf (fun _ _=>non _)).rows);clear hf p0;go_wp2_with fail;refine(pfine_any (New W1.heap.size w2) ts A c be bp w9 i1 n1 H9.out).mono ?_;rintro e wq ⟨rfl,rfl⟩;have l0:=(Zc S9.out).1 0 _ rfl;have r0:=(Zc R9.out).1 0 _ rfl;have rf:=(Zc R9.out).2;have q0:=(Zc Q9.out).1 0 _ rfl;have q1:=(Zc Q9.out).1 1 _ rfl;have qf:=(Zc Q9.out).2;go_wp2_with fail;have hfz:Fr (fun q=>q=w.heap.size∨q=w.heap.size+1) w9 (((w9.setCell ⟨w.heap.size,0,none⟩ (.slice A1 pq.length c1)).setCell ⟨w.heap.size+1,0,none⟩ (.int .i64 0)).setCell ⟨w.heap.size+1,1,none⟩ (.int .i64 0)):=(((Fr.refl (fun q=>q=w.heap.size∨q=w.heap.size+1) w9).setCell ⟨w.heap.size,0,none⟩ _ (.inl (.inl rfl))).setCell ⟨w.heap.size+1,0,none⟩ _ (.inl (.inr rfl))).setCell ⟨w.heap.size+1,1,none⟩ _ (.inl (.inr rfl));have hfa:Fr (fun q=>q=w.heap.size+1) (w9.setCell ⟨w.heap.size,0,none⟩ (.slice A1 pq.length c1)) (((w9.setCell ⟨w.heap.size,0,none⟩ (.slice A1 pq.length c1)).setCell ⟨w.heap.size+1,0,none⟩ (.int .i64 0)).setCell ⟨w.heap.size+1,1,none⟩ (.int .i64 0)):=((Fr.refl (fun q=>q=w.heap.size+1) _).setCell ⟨w.heap.size+1,0,none⟩ _ (.inl rfl)).setCell ⟨w.heap.size+1,1,none⟩ _ (.inl rfl);have hrz:(((w9.setCell ⟨w.heap.size,0,none⟩ (.slice A1 pq.length c1)).setCell ⟨w.heap.size+1,0,none⟩ (.int .i64 0)).setCell ⟨w.heap.size+1,1,none⟩ (.int .i64 0)).heap[w.heap.size]? =some (.cells #[.slice A1 pq.length c1] 24 (0,0)):=Zb (blk_set R9.out 0 (.slice A1 pq.length c1)) hfa (by omega);have hqa:(w9.setCell ⟨w.heap.size,0,none⟩ (.slice A1 pq.length c1)).heap[w.heap.size+1]? =some (.cells #[.int .i64 0,.int .i64 0] 34 (0,0)):=Zb Q9.out ((Fr.refl (fun q=>q=w.heap.size) w9).setCell ⟨w.heap.size,0,none⟩ _ (.inl rfl)) (by omega);have hqz:(((w9.setCell ⟨w.heap.size,0,none⟩ (.slice A1 pq.length c1)).setCell ⟨w.heap.size+1,0,none⟩ (.int .i64 0)).setCell ⟨w.heap.size+1,1,none⟩ (.int .i64 0)).heap[w.heap.size+1]? =some (.cells #[.int .i64 0,.int .i64 0] 34 (0,0)):=blk_set (blk_set hqa 0 _) 1 _;have HFZ:=Zh hfz;clear l0 r0 rf q0 q1 qf hfa hqa hfz;generalize (((w9.setCell ⟨w.heap.size,0,none⟩ (.slice A1 pq.length c1)).setCell ⟨w.heap.size+1,0,none⟩ (.int .i64 0)).setCell ⟨w.heap.size+1,1,none⟩ (.int .i64 0))=wz at*;have r0:=(Zc hrz).1 0 _ rfl;have q0:=(Zc hqz).1 0 _ rfl;have q1:=(Zc hqz).1 1 _ rfl;clear hrz hqz;refine bodyPost_ret (v:=.tuple #[.agg #[.slice A1 pq.length c1],.agg #[.int .i64 0,.int .i64 0]]) (by simp[results,Tryz.results85,go_sem,r0,q0,q1]) rfl ⟨_,_,rfl,hlc,F9.out.then HFZ.out fun k hk e=>by rcases e with e|e<;>omega,?_⟩;exact P9.out.fr HFZ.out (fun q hq e=>by have:=hq.1;rcases e with e|e<;>omega) fun k hk=>⟨by have:=hk.1;omega,Nat.lt_of_lt_of_le hk.2 HFZ.out.size⟩
  ·rw[if_neg hk5] at hq;split at hq
   case isFalse=>cases hq
   case isTrue hc8=>
   obtain⟨hl9,t1⟩:=hc8;cases hfn:fnQ ts n1 (i1+1) with
   |none=>rw[hfn] at hq;cases hq
   |some r=>
   obtain⟨y,n',j⟩:=r;rw[hfn,Option.bind_some] at hq;have T1:=Zh t1;have HFN:=Zh hfn;have HQ:=Zh hq;clear t1 hfn hq
   have hk5n:(((ts[i1].kind.toNat:Nat):Int)!=5)=true:=by rw[bne_iff_ne];omega
   have hne16:((pq.length:Int)==16)=false:=by rw[beq_eq_false_iff_ne];omega
   go_wp2_with fail;refine(look_any (New W1.heap.size w2) ts A c be w4 i1 H4.out.eye hi1).mono ?_;rintro e w6 ⟨rfl,hf⟩;have hfk:=field_kind ts[i1];unfold Tk.v;clear hk5;generalize ts[i1]=t0 at*;have H6:=Zh (H4.out.stay hf);have S6:=Zh (Zb S4.out hf (non _));have R6:=Zh (Zb R4.out hf (non _));have Q6:=Zh (Zb Q4.out hf (non _));have F6:=Zh (F4.out.trans hf);have O6:=Zh (O4.out.fr hf (fun _ _=>non _));have hz6:=hf.size;clear hf p0;have s0:=(Zc S6.out).1 0 _ rfl;go_wp2_with fail;refine(eword_any (New W1.heap.size w2) ts A c be bp w6 i1 n1 ⟨#[102,110]⟩ H6.out hi1).mono ?_;rintro e w5 ⟨rfl,hf,h⟩;rw[show tkK ts 2 ⟨#[102,110]⟩ i1=true from T1.out];rw[eyeI_t (show tkK ts 2 ⟨#[102,110]⟩ i1=true from T1.out)] at h;have H5:=Zh h;have S5:=Zh (Zb S6.out hf hpq);have R5:=Zh (Zb R6.out hf (hps _ (by omega)));have Q5:=Zh (Zb Q6.out hf (hps _ (by omega)));have F5:=Zh (F6.out.then hf fun k hk hp=>by rcases hp with hp|hp<;>omega);have O5:=Zh (O6.out.fr hf (fun k hk=>hpB k hk));have hz5:=hf.size;clear hf h s0 hfk hk5n hne16;have s0:=(Zc S5.out).1 0 _ rfl;have sf:=(Zc S5.out).2;have HV:=Zh O5.out.lt;have hBW:q3+1≤w5.heap.size:=by omega
   have HCE:=Zh (qfunc_any (New W1.heap.size w2) ts A c be bp w5.drew (i1+1) n1 y n' j (H5.out.stay (Zf w5).drew) (fun q hq=>by have:=HOK.out q hq;show q<w5.heap.size;omega) HFN.out);go_upto_region 11 with fail
   go_region_law (first|(refine step_fu rfl (.tmp 71) (.tmp 74) rfl (q3+1) w5.heap.size (.slice A1 pq.length c1) pq y B1 B2 B3 d1 d2 d3 rfl O8 hr8 (fun k hk=>(HV.out k hk).2) hBW hw8 rfl (by omega) (pq.length+1) rfl ?_;intro A7 c7 w9 hc7 hown7 hf7;have hb7:=Zb hb8 hf7 (fun e=>by have:=e.1;omega);have s0:=(Zc hb7).1 0 _ rfl;have sf:=(Zc hb7).2)|(go_simp;go_at_call 125;refine HCE.out.mono ?_;rintro e w8 ⟨B1,B2,B3,d1,d2,d3,rfl,hf8,h8,hr8⟩;have hb8:=Zb (Zb S5.out (Zf w5).drew (non _)) hf8 hpq;have s0:=(Zc hb8).1 0 _ rfl;have sf:=(Zc hb8).2;have s0a:=((Zf w8).alloc (.cells #[.string y.name,.slice B1 y.params.length d1,.slice B2 y.body.length d2,.bool y.sec,.slice B3 y.ret.length d3] 53)).cell' s0 (non _);have O8:=(O5.out.fr (Zf w5).drew (fun _ _=>non _)).fr hf8 (fun k hk=>hpB k hk);have hw8:w5.heap.size≤w8.heap.size:=hf8.size))
   all_goals
    have hb9:=blk_set hb7 0 (.slice A7 (pq.length+1) c7);have hf9:Fr (fun q=>q3≤q) w8 (w9.setCell ⟨q3,0,none⟩ (.slice A7 (pq.length+1) c7)):=(hf7.mono fun _ _ h=>Nat.le_of_lt h.1).setCell _ _ (.inl (Nat.le_refl _));have HZ9:=Zh (h8.away hf9 (by omega) (by omega) (fun q hq e=>by have:=HOK.out q hq;omega));have RR:=Zh (Zb (Zb (Zb R5.out (Zf w5).drew (non _)) hf8 (hps _ (by omega))) hf9 (by omega));have QQ:=Zh (Zb (Zb (Zb Q5.out (Zf w5).drew (non _)) hf8 (hps _ (by omega))) hf9 (by omega));have OO:=Zh (hown7.fr ((Fr.refl (fun q=>q=q3) w9).setCell ⟨q3,0,none⟩ (.slice A7 (pq.length+1) c7) (.inl rfl)) (fun k hk e=>by have e:k=q3:=e;omega));have FF:=Zh (((F5.out.trans (Zf w5).drew).then hf8 fun k hk hp=>by rcases hp with hp|hp<;>omega).then hf9 (S:=Non) (fun k hk e=>by have e:q3≤k:=e;omega));have BB:=Zh (show(w9.setCell ⟨q3,0,none⟩ (.slice A7 (pq.length+1) c7)).heap[q3]? =some (.cells #[.slice A7 (pq.length+1) c7] 24 (0,0)) from hb9);have hx1:=progLen_at S4.out;have hx2:=progLen_at BB.out;clear s0 s0a sf hf8 h8 hf7 hf9 hown7 hb7 hb8 hb9 O8 hr8;generalize w9.setCell ⟨q3,0,none⟩ (.slice A7 (pq.length+1) c7)=wn at*;clear w9;go_wp2_with fail;go_roundw
    case rel=>exact⟨g1,pq++[y],n',j,A7,c7,HQ.out,by simp;omega,by simpa using hc7,HZ9.out,by simpa using BB.out,RR.out,QQ.out,by simpa using OO.out,FF.out⟩
    case measure=>rw[hx1,hx2];omega
theorem qparsed_any (s:ByteArray) (xs:List Fu) (w:World) (hx:parseQ s=some xs):
  Calls Tryz.prog 55 #[.string s] w fun e w'=>∃A c,e= .returned (.agg #[.slice A xs.length c])∧xs.length≤c∧Fr Non w w'∧RdRows (New w.heap.size w') w' 5 A 0 (xs.map Fu.d):=by
 obtain⟨W1,HW1⟩:∃W1,W1=w.alloc (.cells #[.slice none 0 0] 24):=⟨_,rfl⟩;have hf1:Fr Non w W1:=by rw[HW1];exact(Zf w).alloc _
 have R1:=Zh (show W1.heap[w.heap.size]? =some (.cells #[.slice none 0 0] 24 (0,0)) by rw[HW1];exact blk_new _ _ _);have F1:=Zh hf1;clear hf1;have hz1:=blk_lt R1.out;go_enter Tryz.func55,Tryz.ntmps55;go_upto_region 1 with fail;rw[←HW1];clear HW1;go_wp2_with fail;refine(qparse_any s xs W1 hx).mono ?_;rintro e w2 ⟨A,c,rfl,hc,hf,hr⟩;have R2:=Zh (Zb R1.out hf (non _));have F2:=Zh (F1.out.trans hf);have X2:=Zh hr;have hz2:=hf.size;clear hf hr;have r0:=(Zc R2.out).1 0 _ rfl;have rf:=(Zc R2.out).2;have hlt:w.heap.size<w2.heap.size:=blk_lt R2.out;go_wp2_with fail;have hfz:Fr (fun q=>q=w.heap.size) w2 (((w2.setCell ⟨w.heap.size,0,none⟩ (.slice A xs.length c)).alloc (.cells #[.slice A xs.length c] 24)).alloc (.cells #[.int .i64 0,.int .i64 0] 34)):=(((Fr.refl (fun q=>q=w.heap.size) w2).setCell ⟨w.heap.size,0,none⟩ _ (.inl rfl)).alloc _).alloc _;have hrz:(((w2.setCell ⟨w.heap.size,0,none⟩ (.slice A xs.length c)).alloc (.cells #[.slice A xs.length c] 24)).alloc (.cells #[.int .i64 0,.int .i64 0] 34)).heap[w.heap.size]? =some (.cells #[.slice A xs.length c] 24 (0,0)):=blk_old (blk_old (blk_set R2.out 0 _));have HFZ:=Zh hfz;clear r0 rf hfz;generalize (((w2.setCell ⟨w.heap.size,0,none⟩ (.slice A xs.length c)).alloc (.cells #[.slice A xs.length c] 24)).alloc (.cells #[.int .i64 0,.int .i64 0] 34))=wz at*;have r0:=(Zc hrz).1 0 _ rfl;clear hrz;refine bodyPost_ret (v:=.agg #[.slice A xs.length c]) (by simp[results,Tryz.results55,go_sem,r0]) rfl ⟨_,_,rfl,hc,F2.out.then HFZ.out fun k hk e=>by have e:k=w.heap.size:=e;omega,?_⟩;exact X2.out.fr HFZ.out (fun q hq e=>by have:=hq.1;have e:q=w.heap.size:=e;omega) fun k hk=>⟨by have:=hk.1;omega,Nat.lt_of_lt_of_le hk.2 HFZ.out.size⟩
section
abbrev Nm.v (x:Nm):Value:=.agg #[.bool x.buf,.bool x.sec,.bool x.mt,.bool x.own,.bool x.set,.bool x.gone,.int .i64 x.lent,.int .i64 x.loops]
def nvs (l:NL):List (ByteArray×Value):=l.map fun p=>(p.1,p.2.v)
theorem mhas_nvs (l:NL) (s:ByteArray):mhas (nvs l) s=nhas l s:=by simp[mhas,nvs,nhas,List.any_map,Function.comp_def]
theorem mget_nvs (l:NL) (s:ByteArray):mget (nvs l) s Nm.zero.v=(nget l s).v:=by
 rw[mget,nget,nvs,List.find?_map];show((Option.map _ (l.find? fun p=>sq p.1 s)).map _).getD _=_
 cases l.find? fun p=>sq p.1 s<;>rfl
theorem mput_nvs (l:NL) (s:ByteArray) (x:Nm):mput (nvs l) s x.v=nvs (nput l s x):=by
 rw[mput,nput,mhas_nvs];split
 ·rw[mset,nset,nvs,nvs,List.map_map,List.map_map];apply List.map_congr_left;intro p _;simp only[Function.comp];split<;>rfl
 ·simp[nvs]
theorem mdel_nvs (l:NL) (s:ByteArray):mdel (nvs l) s=nvs (ndel l s):=by
 simp[mdel,nvs,ndel,List.filter_map,Function.comp_def]
theorem undNm:Tryz.prog.underlying 99=some (.map 9 104):=by kernel_rfl
theorem zeroNm (w:World):(zeroValue 104).run Tryz.prog w= .ok Nm.zero.v w:=by kernel_rfl
structure EvAt (base b:Nat) (PV:Value) (ru:Int) (F:Nat) (w:World) (a:Ev) (bk:Nat):Prop where
 blk:w.heap[b]? =some (.cells #[PV,.int .u8 ru,.int .i64 F,.int .i64 a.n,.int .i64 a.loops,.map (some bk)] 101 (0,0))
 nm:MapS w bk (nvs a.nm)
 hb:base≤b
 hk:base≤bk
def ES (b bk:Nat) (k:Nat):Prop:=k=b∨k=bk
section
variable {base b:Nat} {PV:Value} {ru:Int} {F:Nat} {w w':World} {a:Ev} {bk:Nat}
theorem EvAt.fr {S:Nat→Prop} (h:EvAt base b PV ru F w a bk) (hf:Fr S w w') (hs:∀k,ES b bk k→¬S k):EvAt base b PV ru F w' a bk:=
 ⟨Zb h.blk hf (hs _ (.inl rfl)),h.nm.fr hf (hs _ (.inr rfl)),h.hb,h.hk⟩
theorem EvAt.stay (h:EvAt base b PV ru F w a bk) (hf:Fr Non w w'):EvAt base b PV ru F w' a bk:=h.fr hf fun _ _=>non _
theorem EvAt.ne (h:EvAt base b PV ru F w a bk):bk≠b:=by
 have h1:=h.blk;rintro rfl;obtain⟨es,cl,hb,_⟩:=h.nm;rw[h1] at hb;cases hb
theorem EvAt.lt (h:EvAt base b PV ru F w a bk):∀k,ES b bk k→base≤k∧k<w.heap.size:=fun k hk=>by
 rcases hk with rfl|rfl
 ·exact⟨h.hb,blk_lt h.blk⟩
 ·exact⟨h.hk,h.nm.lt⟩
theorem EvAt.look (h:EvAt base b PV ru F w a bk) (nm:ByteArray):(Instr.lookup 99 (.map (some bk)) (.string nm) false).run Tryz.prog w= .ok (a.g nm).v w:=by
 have:=(h.nm.look undNm undStr zeroNm nm).2;rw[mget_nvs] at this;exact this
end
def UnR (n ru:Int) (ok:Bool) (e:Ending):Prop:=e=if ok then .returned (.tuple #[]) else .panicked [{v:=faultV n (codeOf ru),recovered:=false}]
theorem UnR.t {n ru:Int} {e:Ending} (h:UnR n ru true e):e= .returned (.tuple #[]):=h
theorem UnR.f {n ru:Int} {e:Ending} (h:UnR n ru false e):e= .panicked [{v:=faultV n (codeOf ru),recovered:=false}]:=h
theorem unR_t {n ru:Int} {b:Bool} (h:b=true):UnR n ru b (.returned (.tuple #[])):=by subst h;rfl
theorem unR_f {n ru:Int} {b:Bool} (h:b=false):UnR n ru b (.panicked [{v:=faultV n (codeOf ru),recovered:=false}]):=by subst h;rfl
def VaR (n ru:Int) (ok:Bool) (v:Value) (e:Ending):Prop:=e=if ok then .returned v else .panicked [{v:=faultV n (codeOf ru),recovered:=false}]
theorem VaR.t {n ru:Int} {v:Value} {e:Ending} (h:VaR n ru true v e):e= .returned v:=h
theorem VaR.f {n ru:Int} {v:Value} {e:Ending} (h:VaR n ru false v e):e= .panicked [{v:=faultV n (codeOf ru),recovered:=false}]:=h
theorem vaR_t {n ru:Int} {b:Bool} {v:Value} (h:b=true):VaR n ru b v (.returned v):=by subst h;rfl
theorem vaR_f {n ru:Int} {b:Bool} {v:Value} (h:b=false):VaR n ru b v (.panicked [{v:=faultV n (codeOf ru),recovered:=false}]):=by subst h;rfl
theorem eunl_any (b:Nat) (w:World) (n ru r:Int) (is:Bool) (er:Int) (h1:w.cell? ⟨b,1,none⟩=some (.int .u8 ru)) (h3:w.cell? ⟨b,3,none⟩=some (.int .i64 n)) (he:er=codeOf r):
  Calls Tryz.prog 135 #[.pointer (some ⟨b,0,none⟩),.int .u8 r,.bool is,.int .i64 er] w fun e w'=>UnR n ru (chk ru r is) e∧w=w':=by
 have HE:=Zh he;clear he;by_cases h:r=ru
 ·subst h;have HC:=Zh (show chk r r is=is by simp[chk]);have h':(r==r)=true:=by simp
  cases is with
  |true=>
   go_enter Tryz.func135,Tryz.ntmps135;go_wp2_with fail
   go_end0
   exact⟨unR_t HC.out,rfl⟩
  |false=>
   go_enter Tryz.func135,Tryz.ntmps135;go_wp2_with fail;refine⟨rfl,?_,rfl⟩;rw[HE.out];exact unR_f HC.out
 ·have HC:=Zh (show chk ru r is=true by rw[chk,show(r==ru)=false by simp[h]];rfl);have h':(r==ru)=false:=by simp[h]
  clear h;go_enter Tryz.func135,Tryz.ntmps135;go_wp2_with fail
  go_end0
  exact⟨unR_t HC.out,rfl⟩
theorem ekind_any (base b:Nat) (PV:Value) (ru:Int) (F:Nat) (w:World) (a:Ev) (bk:Nat) (is:Bool) (h:EvAt base b PV ru F w a bk):
  Calls Tryz.prog 127 #[.pointer (some ⟨b,0,none⟩),.bool is] w fun e w'=>UnR a.n ru (chk ru 1 is) e∧w=w':=by
 have b1:=(Zc h.blk).1 1 _ rfl;have b3:=(Zc h.blk).1 3 _ rfl;have H:=Zh (eunl_any b w a.n ru 1 is 8 b1 b3 rfl);clear h b1 b3;go_enter Tryz.func127,Tryz.ntmps127;go_wp2_with fail;refine H.out.mono ?_;rintro e w' ⟨he,rfl⟩;cases hc:chk ru 1 is with
 |true=>
  rw[hc] at he;obtain rfl:=he.t;clear he;have HC:=Zh hc;clear hc;go_wp2_with fail
  go_end0
  exact⟨unR_t HC.out,rfl⟩
 |false=>
  rw[hc] at he;obtain rfl:=he.f;clear he;have HC:=Zh hc;clear hc;go_wp2_with fail;exact⟨rfl,unR_f HC.out,rfl⟩
theorem eclear_any (base b:Nat) (PV:Value) (ru:Int) (F:Nat) (w:World) (a:Ev) (bk:Nat) (is:Bool) (h:EvAt base b PV ru F w a bk):
  Calls Tryz.prog 100 #[.pointer (some ⟨b,0,none⟩),.bool is] w fun e w'=>UnR a.n ru (chk ru 2 is) e∧w=w':=by
 have b1:=(Zc h.blk).1 1 _ rfl;have b3:=(Zc h.blk).1 3 _ rfl;have H:=Zh (eunl_any b w a.n ru 2 is 120 b1 b3 rfl);clear h b1 b3;go_enter Tryz.func100,Tryz.ntmps100;go_wp2_with fail;refine H.out.mono ?_;rintro e w' ⟨he,rfl⟩;cases hc:chk ru 2 is with
 |true=>
  rw[hc] at he;obtain rfl:=he.t;clear he;have HC:=Zh hc;clear hc;go_wp2_with fail
  go_end0
  exact⟨unR_t HC.out,rfl⟩
 |false=>
  rw[hc] at he;obtain rfl:=he.f;clear he;have HC:=Zh hc;clear hc;go_wp2_with fail;exact⟨rfl,unR_f HC.out,rfl⟩
theorem efree_any (base b:Nat) (PV:Value) (ru:Int) (F:Nat) (w:World) (a:Ev) (bk:Nat) (is:Bool) (h:EvAt base b PV ru F w a bk):
  Calls Tryz.prog 132 #[.pointer (some ⟨b,0,none⟩),.bool is] w fun e w'=>UnR a.n ru (chk ru 3 is) e∧w=w':=by
 have b1:=(Zc h.blk).1 1 _ rfl;have b3:=(Zc h.blk).1 3 _ rfl;have H:=Zh (eunl_any b w a.n ru 3 is 130 b1 b3 rfl);clear h b1 b3;go_enter Tryz.func132,Tryz.ntmps132;go_wp2_with fail;refine H.out.mono ?_;rintro e w' ⟨he,rfl⟩;cases hc:chk ru 3 is with
 |true=>
  rw[hc] at he;obtain rfl:=he.t;clear he;have HC:=Zh hc;clear hc;go_wp2_with fail
  go_end0
  exact⟨unR_t HC.out,rfl⟩
 |false=>
  rw[hc] at he;obtain rfl:=he.f;clear he;have HC:=Zh hc;clear hc;go_wp2_with fail;exact⟨rfl,unR_f HC.out,rfl⟩
theorem ethere_any (base b:Nat) (PV:Value) (ru:Int) (F:Nat) (w:World) (a:Ev) (bk:Nat) (is:Bool) (h:EvAt base b PV ru F w a bk):
  Calls Tryz.prog 133 #[.pointer (some ⟨b,0,none⟩),.bool is] w fun e w'=>UnR a.n ru (chk ru 4 is) e∧w=w':=by
 have b1:=(Zc h.blk).1 1 _ rfl;have b3:=(Zc h.blk).1 3 _ rfl;have H:=Zh (eunl_any b w a.n ru 4 is 140 b1 b3 rfl);clear h b1 b3;go_enter Tryz.func133,Tryz.ntmps133;go_wp2_with fail;refine H.out.mono ?_;rintro e w' ⟨he,rfl⟩;cases hc:chk ru 4 is with
 |true=>
  rw[hc] at he;obtain rfl:=he.t;clear he;have HC:=Zh hc;clear hc;go_wp2_with fail
  go_end0
  exact⟨unR_t HC.out,rfl⟩
 |false=>
  rw[hc] at he;obtain rfl:=he.f;clear he;have HC:=Zh hc;clear hc;go_wp2_with fail;exact⟨rfl,unR_f HC.out,rfl⟩
theorem blk_put8 {w:World} {g:Nat} {a0 a1 a2 a3 a4 a5 a6 a7:Value} {T:TypeId} (h:w.heap[g]? =some (.cells #[a0,a1,a2,a3,a4,a5,a6,a7] T (0,0))) (v0 v1 v2 v3 v4 v5 v6 v7:Value):
  ((((((((w.setCell ⟨g,0,none⟩ v0).setCell ⟨g,1,none⟩ v1).setCell ⟨g,2,none⟩ v2).setCell ⟨g,3,none⟩ v3).setCell ⟨g,4,none⟩ v4).setCell ⟨g,5,none⟩ v5).setCell ⟨g,6,none⟩ v6).setCell ⟨g,7,none⟩ v7).heap[g]? =some (.cells #[v0,v1,v2,v3,v4,v5,v6,v7] T (0,0)):=by
 have h0:(w.setCell ⟨g,0,none⟩ v0).heap[g]? =some (.cells #[v0,a1,a2,a3,a4,a5,a6,a7] T (0,0)):=blk_set h 0 v0;have h1:((w.setCell ⟨g,0,none⟩ v0).setCell ⟨g,1,none⟩ v1).heap[g]? =some (.cells #[v0,v1,a2,a3,a4,a5,a6,a7] T (0,0)):=blk_set h0 1 v1;have h2:(((w.setCell ⟨g,0,none⟩ v0).setCell ⟨g,1,none⟩ v1).setCell ⟨g,2,none⟩ v2).heap[g]? =some (.cells #[v0,v1,v2,a3,a4,a5,a6,a7] T (0,0)):=blk_set h1 2 v2;have h3:((((w.setCell ⟨g,0,none⟩ v0).setCell ⟨g,1,none⟩ v1).setCell ⟨g,2,none⟩ v2).setCell ⟨g,3,none⟩ v3).heap[g]? =some (.cells #[v0,v1,v2,v3,a4,a5,a6,a7] T (0,0)):=blk_set h2 3 v3;have h4:(((((w.setCell ⟨g,0,none⟩ v0).setCell ⟨g,1,none⟩ v1).setCell ⟨g,2,none⟩ v2).setCell ⟨g,3,none⟩ v3).setCell ⟨g,4,none⟩ v4).heap[g]? =some (.cells #[v0,v1,v2,v3,v4,a5,a6,a7] T (0,0)):=blk_set h3 4 v4;have h5:((((((w.setCell ⟨g,0,none⟩ v0).setCell ⟨g,1,none⟩ v1).setCell ⟨g,2,none⟩ v2).setCell ⟨g,3,none⟩ v3).setCell ⟨g,4,none⟩ v4).setCell ⟨g,5,none⟩ v5).heap[g]? =some (.cells #[v0,v1,v2,v3,v4,v5,a6,a7] T (0,0)):=blk_set h4 5 v5;have h6:(((((((w.setCell ⟨g,0,none⟩ v0).setCell ⟨g,1,none⟩ v1).setCell ⟨g,2,none⟩ v2).setCell ⟨g,3,none⟩ v3).setCell ⟨g,4,none⟩ v4).setCell ⟨g,5,none⟩ v5).setCell ⟨g,6,none⟩ v6).heap[g]? =some (.cells #[v0,v1,v2,v3,v4,v5,v6,a7] T (0,0)):=blk_set h5 6 v6;exact blk_set h6 7 v7
theorem fr_put8 {g:Nat} {w:World} {S:Nat→Prop} (hs:S g) (v0 v1 v2 v3 v4 v5 v6 v7:Value):
  Fr S w ((((((((w.setCell ⟨g,0,none⟩ v0).setCell ⟨g,1,none⟩ v1).setCell ⟨g,2,none⟩ v2).setCell ⟨g,3,none⟩ v3).setCell ⟨g,4,none⟩ v4).setCell ⟨g,5,none⟩ v5).setCell ⟨g,6,none⟩ v6).setCell ⟨g,7,none⟩ v7):=
 ((((((((Fr.refl S w).setCell _ _ (.inl hs)).setCell _ _ (.inl hs)).setCell _ _ (.inl hs)).setCell _ _ (.inl hs)).setCell _ _ (.inl hs)).setCell _ _ (.inl hs)).setCell _ _ (.inl hs)).setCell _ _ (.inl hs)
end
theorem egive_any (base b:Nat) (PV:Value) (ru:Int) (F:Nat) (w:World) (a:Ev) (bk:Nat) (nm:ByteArray) (x:Nm) (h:EvAt base b PV ru F w a bk):
  Calls Tryz.prog 64 #[.pointer (some ⟨b,0,none⟩),.string nm,x.v] w fun e w'=>e= .returned (.tuple #[])∧Fr (fun k=>k=bk) w w'∧EvAt base b PV ru F w' (a.give nm x) bk:=by
 obtain⟨W1,HW1⟩:∃W1,W1=w.alloc (.cells #[.bool x.buf,.bool x.sec,.bool x.mt,.bool x.own,.bool x.set,.bool x.gone,.int .i64 x.lent,.int .i64 x.loops] 104):=⟨_,rfl⟩;have hf1:Fr Non w W1:=by rw[HW1];exact(Zf w).alloc _
 have hb1:W1.heap[w.heap.size]? =some (.cells #[.bool x.buf,.bool x.sec,.bool x.mt,.bool x.own,.bool x.set,.bool x.gone,.int .i64 x.lent,.int .i64 x.loops] 104 (0,0)):=by rw[HW1];exact blk_new _ _ _
 have h1:=h.stay hf1;have b4:=(Zc h1.blk).1 4 _ rfl;have xf:=(Zc hb1).2;have x7:=(Zc hb1).1 7 _ rfl;have hb2:=blk_set hb1 7 (.int .i64 a.loops);have hf2:Fr (fun k=>k=w.heap.size) W1 (W1.setCell ⟨w.heap.size,7,none⟩ (.int .i64 a.loops)):=(Fr.refl _ W1).setCell _ _ (.inl rfl);have hl:=h.lt;have h2:=h1.fr hf2 (fun k hk e=>by have:=(hl k hk).2;have e:k=w.heap.size:=e;omega);have HF2:=Zh (show Fr Non w (W1.setCell ⟨w.heap.size,7,none⟩ (.int .i64 a.loops)) from hf1.setCell _ _ (.inr (Nat.le_refl _)));have H:=Zh h;clear h;have H1:=Zh h1;clear h1;have HB2:=Zh hb2;clear hb2;have H2:=Zh h2;clear h2;clear hf1 hf2;go_enter Tryz.func64,Tryz.ntmps64;go_upto_region 1 with fail;rw[←HW1];clear HW1;go_upto_region 2 with fail;generalize W1.setCell ⟨w.heap.size,7,none⟩ (.int .i64 a.loops)=W2 at*;clear b4 xf x7 hb1;have b5:=(Zc H2.out.blk).1 5 _ rfl;have x0:=(Zc HB2.out).1 0 _ rfl;have x1:=(Zc HB2.out).1 1 _ rfl;have x2:=(Zc HB2.out).1 2 _ rfl;have x3:=(Zc HB2.out).1 3 _ rfl;have x4:=(Zc HB2.out).1 4 _ rfl;have x5:=(Zc HB2.out).1 5 _ rfl;have x6:=(Zc HB2.out).1 6 _ rfl;have x7:=(Zc HB2.out).1 7 _ rfl;have hd:=H2.out.stay (Zf W2).drew;obtain⟨w3,hr,hm,hf3⟩:=hd.nm.put undNm undStr nm ({x with loops:=a.loops}:Nm).v;rw[mput_nvs] at hm;have h3:EvAt base b PV ru F w3 (a.give nm x) bk:=⟨Zb hd.blk hf3 (fun e=>hd.ne e.symm),hm,hd.hb,hd.hk⟩;have H3:=Zh h3;clear h3;have HF3:=Zh (((HF2.out.trans (Zf W2).drew).non).trans hf3);clear hm hf3 hd
 go_still_tail 6,(by kernel_rfl)
 change wpList _ _ _ _ _ W2.drew
 go_wp2_with fail
 go_end0
 exact⟨rfl,HF3.out,H3.out⟩
theorem enum_any (base b:Nat) (PV:Value) (ru:Int) (F:Nat) (w:World) (a:Ev) (bk:Nat) (nm:ByteArray) (h:EvAt base b PV ru F w a bk):
  Calls Tryz.prog 126 #[.pointer (some ⟨b,0,none⟩),.string nm] w fun e w'=>VaR a.n ru ((a.g nm).numOk ru) (a.g nm).v e∧Fr Non w w':=by
 obtain⟨W1,HW1⟩:∃W1,W1=w.alloc (.cells #[.bool false,.bool false,.bool false,.bool false,.bool false,.bool false,.int .i64 0,.int .i64 0] 104):=⟨_,rfl⟩;have hf1:Fr Non w W1:=by rw[HW1];exact(Zf w).alloc _
 have hb1:W1.heap[w.heap.size]? =some (.cells #[.bool false,.bool false,.bool false,.bool false,.bool false,.bool false,.int .i64 0,.int .i64 0] 104 (0,0)):=by rw[HW1];exact blk_new _ _ _
 have h1:=h.stay hf1;have hl:=h1.look nm;obtain⟨x,hx⟩:∃x,a.g nm=x:=⟨_,rfl⟩;rw[hx] at hl ⊢;clear hx;obtain⟨W2,HW2⟩:∃W2,W2=W1.alloc (.cells #[.bool x.buf,.bool x.sec,.bool x.mt,.bool x.own,.bool x.set,.bool x.gone,.int .i64 x.lent,.int .i64 x.loops] 104):=⟨_,rfl⟩;have hf2:Fr Non W1 W2:=by rw[HW2];exact(Zf _).alloc _
 have hb2:W2.heap[W1.heap.size]? =some (.cells #[.bool x.buf,.bool x.sec,.bool x.mt,.bool x.own,.bool x.set,.bool x.gone,.int .i64 x.lent,.int .i64 x.loops] 104 (0,0)):=by rw[HW2];exact blk_new _ _ _
 have b5:=(Zc h1.blk).1 5 _ rfl;have H2:=Zh (h1.stay hf2);have HR:=Zh (Zb hb1 hf2 (non _));have HF:=Zh (hf1.trans hf2);have HB2:=Zh hb2;clear hb2 hf1 hf2 hb1 h1 h;have HK:=Zh (ekind_any base b PV ru F W2 a bk (!x.buf) H2.out);go_enter Tryz.func126,Tryz.ntmps126;go_upto_region 1 with fail;rw[←HW1];clear HW1;go_upto_region 2 with fail;rw[←HW2];clear HW2 hl b5;have x0:=(Zc HB2.out).1 0 _ rfl;go_wp2_with fail;refine HK.out.mono ?_;rintro e w3 ⟨he,rfl⟩;cases hk:chk ru 1 (!x.buf) with
 |false=>
  rw[hk] at he;obtain rfl:=he.f;clear he;have HC:=Zh hk;clear hk;go_wp2_with fail;exact⟨rfl,vaR_f HC.out,HF.out⟩
 |true=>
  rw[hk] at he;obtain rfl:=he.t;clear he;have HC:=Zh hk;clear hk x0;have x0:=(Zc HB2.out).1 0 _ rfl;have x1:=(Zc HB2.out).1 1 _ rfl;have x2:=(Zc HB2.out).1 2 _ rfl;have x3:=(Zc HB2.out).1 3 _ rfl;have x4:=(Zc HB2.out).1 4 _ rfl;have x5:=(Zc HB2.out).1 5 _ rfl;have x6:=(Zc HB2.out).1 6 _ rfl;have x7:=(Zc HB2.out).1 7 _ rfl;have f0:=(Zc HR.out).1 0 _ rfl;have f1:=(Zc HR.out).1 1 _ rfl;have f2:=(Zc HR.out).1 2 _ rfl;have f3:=(Zc HR.out).1 3 _ rfl;have f4:=(Zc HR.out).1 4 _ rfl;have f5:=(Zc HR.out).1 5 _ rfl;have f6:=(Zc HR.out).1 6 _ rfl;have f7:=(Zc HR.out).1 7 _ rfl;have ff:=(Zc HR.out).2;go_wp2_with fail;have HZ:=Zh (blk_put8 HR.out (.bool x.buf) (.bool x.sec) (.bool x.mt) (.bool x.own) (.bool x.set) (.bool x.gone) (.int .i64 x.lent) (.int .i64 x.loops));have HFZ:=Zh (fr_put8 (g:=w.heap.size) (w:=W2) (S:=fun q=>q=w.heap.size) rfl (.bool x.buf) (.bool x.sec) (.bool x.mt) (.bool x.own) (.bool x.set) (.bool x.gone) (.int .i64 x.lent) (.int .i64 x.loops));generalize ((((((((W2.setCell ⟨w.heap.size,0,none⟩ (.bool x.buf)).setCell ⟨w.heap.size,1,none⟩ (.bool x.sec)).setCell ⟨w.heap.size,2,none⟩ (.bool x.mt)).setCell ⟨w.heap.size,3,none⟩ (.bool x.own)).setCell ⟨w.heap.size,4,none⟩ (.bool x.set)).setCell ⟨w.heap.size,5,none⟩ (.bool x.gone)).setCell ⟨w.heap.size,6,none⟩ (.int .i64 x.lent)).setCell ⟨w.heap.size,7,none⟩ (.int .i64 x.loops))=wz at*;clear f0 f1 f2 f3 f4 f5 f6 f7 ff;have f0:=(Zc HZ.out).1 0 _ rfl;have f1:=(Zc HZ.out).1 1 _ rfl;have f2:=(Zc HZ.out).1 2 _ rfl;have f3:=(Zc HZ.out).1 3 _ rfl;have f4:=(Zc HZ.out).1 4 _ rfl;have f5:=(Zc HZ.out).1 5 _ rfl;have f6:=(Zc HZ.out).1 6 _ rfl;have f7:=(Zc HZ.out).1 7 _ rfl;refine bodyPost_ret (v:=x.v) (by simp[results,Tryz.results126,go_sem,f0,f1,f2,f3,f4,f5,f6,f7]) rfl ⟨vaR_t HC.out,HF.out.then HFZ.out (fun k hk e=>by have e:k=w.heap.size:=e;omega)⟩
theorem ebuf_any (base b:Nat) (PV:Value) (ru:Int) (F:Nat) (w:World) (a:Ev) (bk:Nat) (nm:ByteArray) (h:EvAt base b PV ru F w a bk):
  Calls Tryz.prog 131 #[.pointer (some ⟨b,0,none⟩),.string nm] w fun e w'=>VaR a.n ru ((a.g nm).bufOk ru) (a.g nm).v e∧Fr Non w w':=by
 obtain⟨W1,HW1⟩:∃W1,W1=w.alloc (.cells #[.bool false,.bool false,.bool false,.bool false,.bool false,.bool false,.int .i64 0,.int .i64 0] 104):=⟨_,rfl⟩;have hf1:Fr Non w W1:=by rw[HW1];exact(Zf w).alloc _
 have hb1:W1.heap[w.heap.size]? =some (.cells #[.bool false,.bool false,.bool false,.bool false,.bool false,.bool false,.int .i64 0,.int .i64 0] 104 (0,0)):=by rw[HW1];exact blk_new _ _ _
 have h1:=h.stay hf1;have hl:=h1.look nm;obtain⟨x,hx⟩:∃x,a.g nm=x:=⟨_,rfl⟩;rw[hx] at hl ⊢;clear hx;obtain⟨W2,HW2⟩:∃W2,W2=W1.alloc (.cells #[.bool x.buf,.bool x.sec,.bool x.mt,.bool x.own,.bool x.set,.bool x.gone,.int .i64 x.lent,.int .i64 x.loops] 104):=⟨_,rfl⟩;have hf2:Fr Non W1 W2:=by rw[HW2];exact(Zf _).alloc _
 have hb2:W2.heap[W1.heap.size]? =some (.cells #[.bool x.buf,.bool x.sec,.bool x.mt,.bool x.own,.bool x.set,.bool x.gone,.int .i64 x.lent,.int .i64 x.loops] 104 (0,0)):=by rw[HW2];exact blk_new _ _ _
 have b5:=(Zc h1.blk).1 5 _ rfl;have H2:=Zh (h1.stay hf2);have HR:=Zh (Zb hb1 hf2 (non _));have HF:=Zh (hf1.trans hf2);have HB2:=Zh hb2;clear hb2 hf1 hf2 hb1 h1 h;go_enter Tryz.func131,Tryz.ntmps131;go_upto_region 1 with fail;rw[←HW1];clear HW1;go_upto_region 2 with fail;rw[←HW2];clear HW2 hl b5;have x0:=(Zc HB2.out).1 0 _ rfl;go_wp2_with fail;refine(ekind_any base b PV ru F W2 a bk x.buf H2.out).mono ?_;rintro e w3 ⟨he,rfl⟩;cases hk:chk ru 1 x.buf with
 |false=>
  rw[hk] at he;obtain rfl:=he.f;clear he;have HC3:=Zh hk;clear hk;go_wp2_with fail;exact⟨rfl,vaR_f (by rw[Nm.bufOk,HC3.out];rfl),HF.out⟩
 |true=>
  rw[hk] at he;obtain rfl:=he.t;clear he;have HC3:=Zh hk;clear hk;clear x0;have x6:=(Zc HB2.out).1 6 _ rfl;go_wp2_with fail;refine(efree_any base b PV ru F W2 a bk (decide (x.lent<2)) H2.out).mono ?_;rintro e w4 ⟨he,rfl⟩;cases hk:chk ru 3 (decide (x.lent<2)) with
  |false=>
   rw[hk] at he;obtain rfl:=he.f;clear he;have HC4:=Zh hk;clear hk;go_wp2_with fail;exact⟨rfl,vaR_f (by rw[Nm.bufOk,HC3.out,HC4.out];rfl),HF.out⟩
  |true=>
   rw[hk] at he;obtain rfl:=he.t;clear he;have HC4:=Zh hk;clear hk;clear x6;have x5:=(Zc HB2.out).1 5 _ rfl;go_wp2_with fail;refine(ethere_any base b PV ru F W2 a bk (!x.gone) H2.out).mono ?_;rintro e w5 ⟨he,rfl⟩;cases hk:chk ru 4 (!x.gone) with
   |false=>
    rw[hk] at he;obtain rfl:=he.f;clear he;have HC5:=Zh hk;clear hk;go_wp2_with fail;exact⟨rfl,vaR_f (by rw[Nm.bufOk,HC3.out,HC4.out,HC5.out];rfl),HF.out⟩
   |true=>
    rw[hk] at he;obtain rfl:=he.t;clear he;have HC5:=Zh hk;clear hk;clear x5;have x0:=(Zc HB2.out).1 0 _ rfl;have x1:=(Zc HB2.out).1 1 _ rfl;have x2:=(Zc HB2.out).1 2 _ rfl;have x3:=(Zc HB2.out).1 3 _ rfl;have x4:=(Zc HB2.out).1 4 _ rfl;have x5:=(Zc HB2.out).1 5 _ rfl;have x6:=(Zc HB2.out).1 6 _ rfl;have x7:=(Zc HB2.out).1 7 _ rfl;have f0:=(Zc HR.out).1 0 _ rfl;have f1:=(Zc HR.out).1 1 _ rfl;have f2:=(Zc HR.out).1 2 _ rfl;have f3:=(Zc HR.out).1 3 _ rfl;have f4:=(Zc HR.out).1 4 _ rfl;have f5:=(Zc HR.out).1 5 _ rfl;have f6:=(Zc HR.out).1 6 _ rfl;have f7:=(Zc HR.out).1 7 _ rfl;have ff:=(Zc HR.out).2;go_wp2_with fail;have HZ:=Zh (blk_put8 HR.out (.bool x.buf) (.bool x.sec) (.bool x.mt) (.bool x.own) (.bool x.set) (.bool x.gone) (.int .i64 x.lent) (.int .i64 x.loops));have HFZ:=Zh (fr_put8 (g:=w.heap.size) (w:=W2) (S:=fun q=>q=w.heap.size) rfl (.bool x.buf) (.bool x.sec) (.bool x.mt) (.bool x.own) (.bool x.set) (.bool x.gone) (.int .i64 x.lent) (.int .i64 x.loops));generalize ((((((((W2.setCell ⟨w.heap.size,0,none⟩ (.bool x.buf)).setCell ⟨w.heap.size,1,none⟩ (.bool x.sec)).setCell ⟨w.heap.size,2,none⟩ (.bool x.mt)).setCell ⟨w.heap.size,3,none⟩ (.bool x.own)).setCell ⟨w.heap.size,4,none⟩ (.bool x.set)).setCell ⟨w.heap.size,5,none⟩ (.bool x.gone)).setCell ⟨w.heap.size,6,none⟩ (.int .i64 x.lent)).setCell ⟨w.heap.size,7,none⟩ (.int .i64 x.loops))=wz at*;clear f0 f1 f2 f3 f4 f5 f6 f7 ff;have f0:=(Zc HZ.out).1 0 _ rfl;have f1:=(Zc HZ.out).1 1 _ rfl;have f2:=(Zc HZ.out).1 2 _ rfl;have f3:=(Zc HZ.out).1 3 _ rfl;have f4:=(Zc HZ.out).1 4 _ rfl;have f5:=(Zc HZ.out).1 5 _ rfl;have f6:=(Zc HZ.out).1 6 _ rfl;have f7:=(Zc HZ.out).1 7 _ rfl;refine bodyPost_ret (v:=x.v) (by simp[results,Tryz.results131,go_sem,f0,f1,f2,f3,f4,f5,f6,f7]) rfl ⟨vaR_t (by rw[Nm.bufOk,HC3.out,HC4.out,HC5.out];rfl),HF.out.then HFZ.out (fun k hk e=>by have e:k=w.heap.size:=e;omega)⟩
theorem eturn_any (base b:Nat) (PV:Value) (ru:Int) (F:Nat) (w:World) (a:Ev) (bk:Nat) (nm:ByteArray) (h:EvAt base b PV ru F w a bk):
  Calls Tryz.prog 128 #[.pointer (some ⟨b,0,none⟩),.string nm] w fun e w'=>VaR a.n ru ((a.g nm).turnOk ru) (a.g nm).v e∧Fr Non w w':=by
 obtain⟨W1,HW1⟩:∃W1,W1=w.alloc (.cells #[.bool false,.bool false,.bool false,.bool false,.bool false,.bool false,.int .i64 0,.int .i64 0] 104):=⟨_,rfl⟩;have hf1:Fr Non w W1:=by rw[HW1];exact(Zf w).alloc _
 have hb1:W1.heap[w.heap.size]? =some (.cells #[.bool false,.bool false,.bool false,.bool false,.bool false,.bool false,.int .i64 0,.int .i64 0] 104 (0,0)):=by rw[HW1];exact blk_new _ _ _
 have HB:=Zh (ebuf_any base b PV ru F W1 a bk nm (h.stay hf1));have H:=Zh h;obtain⟨x,hx⟩:∃x,a.g nm=x:=⟨_,rfl⟩;rw[hx] at HB ⊢;clear hx h;have HR1:=Zh hb1;clear hb1;have HF1:=Zh hf1;clear hf1;go_enter Tryz.func128,Tryz.ntmps128;go_upto_region 1 with fail;rw[←HW1];clear HW1;go_wp2_with fail;refine HB.out.mono ?_;rintro e w2 ⟨he,hf2⟩;cases hk:x.bufOk ru with
 |false=>
  rw[hk] at he;obtain rfl:=he.f;clear he;have HC:=Zh hk;clear hk;have HF:=Zh (HF1.out.trans hf2);clear hf2;go_wp2_with fail;exact⟨rfl,vaR_f (by rw[Nm.turnOk,HC.out];rfl),HF.out⟩
 |true=>
  rw[hk] at he;obtain rfl:=he.t;clear he;have HC:=Zh hk;clear hk;obtain⟨W2,HW2⟩:∃W2,W2=w2.alloc (.cells #[.bool x.buf,.bool x.sec,.bool x.mt,.bool x.own,.bool x.set,.bool x.gone,.int .i64 x.lent,.int .i64 x.loops] 104):=⟨_,rfl⟩;have hf3:Fr Non w2 W2:=by rw[HW2];exact(Zf _).alloc _
  have hb2:W2.heap[w2.heap.size]? =some (.cells #[.bool x.buf,.bool x.sec,.bool x.mt,.bool x.own,.bool x.set,.bool x.gone,.int .i64 x.lent,.int .i64 x.loops] 104 (0,0)):=by rw[HW2];exact blk_new _ _ _
  have HF:=Zh ((HF1.out.trans hf2).trans hf3);have HR:=Zh (Zb (Zb HR1.out hf2 (non _)) hf3 (non _));have H2:=Zh (H.out.stay HF.out);have HB2:=Zh hb2;clear hb2 hf2 hf3;go_upto_region 2 with fail;rw[←HW2];clear HW2;have x2:=(Zc HB2.out).1 2 _ rfl;go_wp2_with fail;refine(ekind_any base b PV ru F W2 a bk x.mt H2.out).mono ?_;rintro e w3 ⟨he,rfl⟩;cases hk:chk ru 1 x.mt with
  |false=>
   rw[hk] at he;obtain rfl:=he.f;clear he;have HC3:=Zh hk;clear hk;go_wp2_with fail;exact⟨rfl,vaR_f (by rw[Nm.turnOk,HC.out,HC3.out];rfl),HF.out⟩
  |true=>
   rw[hk] at he;obtain rfl:=he.t;clear he;have HC3:=Zh hk;clear hk;clear x2;have x6:=(Zc HB2.out).1 6 _ rfl;go_wp2_with fail;refine(efree_any base b PV ru F W2 a bk (x.lent==0) H2.out).mono ?_;rintro e w4 ⟨he,rfl⟩;cases hk:chk ru 3 (x.lent==0) with
   |false=>
    rw[hk] at he;obtain rfl:=he.f;clear he;have HC4:=Zh hk;clear hk;go_wp2_with fail;exact⟨rfl,vaR_f (by rw[Nm.turnOk,HC.out,HC3.out,HC4.out];rfl),HF.out⟩
   |true=>
    rw[hk] at he;obtain rfl:=he.t;clear he;have HC4:=Zh hk;clear hk;clear x6;have x0:=(Zc HB2.out).1 0 _ rfl;have x1:=(Zc HB2.out).1 1 _ rfl;have x2:=(Zc HB2.out).1 2 _ rfl;have x3:=(Zc HB2.out).1 3 _ rfl;have x4:=(Zc HB2.out).1 4 _ rfl;have x5:=(Zc HB2.out).1 5 _ rfl;have x6:=(Zc HB2.out).1 6 _ rfl;have x7:=(Zc HB2.out).1 7 _ rfl;have f0:=(Zc HR.out).1 0 _ rfl;have f1:=(Zc HR.out).1 1 _ rfl;have f2:=(Zc HR.out).1 2 _ rfl;have f3:=(Zc HR.out).1 3 _ rfl;have f4:=(Zc HR.out).1 4 _ rfl;have f5:=(Zc HR.out).1 5 _ rfl;have f6:=(Zc HR.out).1 6 _ rfl;have f7:=(Zc HR.out).1 7 _ rfl;have ff:=(Zc HR.out).2;go_wp2_with fail;have HZ:=Zh (blk_put8 HR.out (.bool x.buf) (.bool x.sec) (.bool x.mt) (.bool x.own) (.bool x.set) (.bool x.gone) (.int .i64 x.lent) (.int .i64 x.loops));have HFZ:=Zh (fr_put8 (g:=w.heap.size) (w:=W2) (S:=fun q=>q=w.heap.size) rfl (.bool x.buf) (.bool x.sec) (.bool x.mt) (.bool x.own) (.bool x.set) (.bool x.gone) (.int .i64 x.lent) (.int .i64 x.loops));generalize ((((((((W2.setCell ⟨w.heap.size,0,none⟩ (.bool x.buf)).setCell ⟨w.heap.size,1,none⟩ (.bool x.sec)).setCell ⟨w.heap.size,2,none⟩ (.bool x.mt)).setCell ⟨w.heap.size,3,none⟩ (.bool x.own)).setCell ⟨w.heap.size,4,none⟩ (.bool x.set)).setCell ⟨w.heap.size,5,none⟩ (.bool x.gone)).setCell ⟨w.heap.size,6,none⟩ (.int .i64 x.lent)).setCell ⟨w.heap.size,7,none⟩ (.int .i64 x.loops))=wz at*;clear f0 f1 f2 f3 f4 f5 f6 f7 ff;have f0:=(Zc HZ.out).1 0 _ rfl;have f1:=(Zc HZ.out).1 1 _ rfl;have f2:=(Zc HZ.out).1 2 _ rfl;have f3:=(Zc HZ.out).1 3 _ rfl;have f4:=(Zc HZ.out).1 4 _ rfl;have f5:=(Zc HZ.out).1 5 _ rfl;have f6:=(Zc HZ.out).1 6 _ rfl;have f7:=(Zc HZ.out).1 7 _ rfl;refine bodyPost_ret (v:=x.v) (by simp[results,Tryz.results128,go_sem,f0,f1,f2,f3,f4,f5,f6,f7]) rfl ⟨vaR_t (by rw[Nm.turnOk,HC.out,HC3.out,HC4.out];rfl),HF.out.then HFZ.out (fun k hk e=>by have e:k=w.heap.size:=e;omega)⟩
theorem field_nsec (x:Nm) (w:World):Sem.run Tryz.prog (Instr.field 104 (.agg #[.bool x.buf,.bool x.sec,.bool x.mt,.bool x.own,.bool x.set,.bool x.gone,.int .i64 x.lent,.int .i64 x.loops]) 1) w= .ok (.bool x.sec) w:=by
 kernel_rfl
theorem field_ngone (x:Nm) (w:World):Sem.run Tryz.prog (Instr.field 104 (.agg #[.bool x.buf,.bool x.sec,.bool x.mt,.bool x.own,.bool x.set,.bool x.gone,.int .i64 x.lent,.int .i64 x.loops]) 5) w= .ok (.bool x.gone) w:=by
 kernel_rfl
theorem chk_tt (ru r:Int):chk ru r true=true:=by simp[chk]
theorem dead_here {A:Prop} (h:A) {w:World} (_:wpAny Tryz.prog .any #[] (fun _ _ _=>True) 0 #[] {tmps:=#[],defers:=[]} w):A:=h
theorem esec_any (N:Nat):∀(k:UInt8) (n:UInt64) (nm:ByteArray) (o:UInt8) (l:List Ex) (d:Nat) (ok:Nat→Prop) (A:Option Addr) (c base b:Nat) (PV:Value) (ru:Int) (F:Nat) (w:World) (a:Ev) (bk:Nat),
  Ex.size (.mk k n nm o l)≤N→Ex.may (.mk k n nm o l) d=true→RdRows ok w 5 A 0 (Ex.ds l)→EvAt base b PV ru F w a bk→
  Calls Tryz.prog 99 #[.pointer (some ⟨b,0,none⟩),exV k n nm o A l.length c] w fun e w'=>VaR a.n ru (Ex.so ru a.g (.mk k n nm o l)) (.bool (Ex.sv a.g (.mk k n nm o l))) e∧Fr Non w w':=by
 induction N with
 |zero=>intro k n nm o l d ok A c base b PV ru F w a bk hN;simp[Ex.size] at hN
 |succ N ih=>
 intro k n nm o l d ok A c base b PV ru F w a bk hN hmay hr h;have hk:=k.toNat_lt;have IH:=Zh ih;clear ih;have HNN:=Zh hN;clear hN;obtain⟨W0,HW0⟩:∃W0,W0=w.alloc (.cells #[vu8 k,vu64 n,.string nm,vu8 o,.slice A l.length c] 48):=⟨_,rfl⟩;have hf0:Fr Non w W0:=by rw[HW0];exact(Zf w).alloc _
 have hbx:W0.heap[w.heap.size]? =some (.cells #[vu8 k,vu64 n,.string nm,vu8 o,.slice A l.length c] 48 (0,0)):=by rw[HW0];exact blk_new _ _ _
 have H0:=Zh (h.stay hf0);clear h;have HR:=Zh (hr.fr hf0 (fun _ _=>non _) (fun _ h=>h));clear hr;have HF0:=Zh hf0;clear hf0;have z0:=(Zc hbx).1 0 _ rfl;have HBX:=Zh hbx;clear hbx;obtain⟨hs,hkids⟩:=may_shape hmay;clear hmay;have HK:=Zh hkids;clear hkids;rcases hs with h1|h1|h1|⟨h1,h2⟩|⟨h1,h2⟩
 ·have HE:=Zh (show Ex.so ru a.g (.mk k n nm o l)=true by rw[Ex.so,if_neg (by omega),if_neg (by omega),if_neg (by omega),if_neg (by omega)]);have HV:=Zh (show Ex.sv a.g (.mk k n nm o l)=false by rw[Ex.sv,if_neg (by omega),if_neg (by omega)]);go_enter Tryz.func99,Tryz.ntmps99;go_upto_region 1 with fail;rw[←HW0];clear HW0;go_wp2_with fail;go_ret;rw[HV.out];exact⟨vaR_t HE.out,HF0.out⟩
 ·have HE:=Zh (show Ex.so ru a.g (.mk k n nm o l)=(a.g nm).numOk ru by rw[Ex.so,if_pos h1]);have HV:=Zh (show Ex.sv a.g (.mk k n nm o l)=(a.g nm).sec by rw[Ex.sv,if_pos (.inl h1)]);have z2:=(Zc HBX.out).1 2 _ rfl;have HC:=Zh (enum_any base b PV ru F W0 a bk nm H0.out);go_enter Tryz.func99,Tryz.ntmps99;go_upto_region 1 with fail;rw[←HW0];clear HW0;go_wp2_with fail;refine HC.out.mono ?_;rintro e w1 ⟨he,hf1⟩;have HF1:=Zh (HF0.out.trans hf1);clear hf1;generalize hx:a.g nm=x at*;clear hx;cases hq:x.numOk ru with
  |false=>
   rw[hq] at he;obtain rfl:=he.f;clear he;have HQ:=Zh hq;clear hq;go_wp2_with fail;exact⟨rfl,vaR_f (by rw[HE.out,HQ.out]),HF1.out⟩
  |true=>
   rw[hq] at he;obtain rfl:=he.t;clear he;have HQ:=Zh hq;clear hq;have hfd:=field_nsec x;go_wp2_with fail;go_ret;rw[HV.out];exact⟨vaR_t (by rw[HE.out,HQ.out]),HF1.out⟩
 ·have HE:=Zh (show Ex.so ru a.g (.mk k n nm o l)=(a.g nm).bufOk ru by rw[Ex.so,if_neg (by omega),if_pos h1]);have HV:=Zh (show Ex.sv a.g (.mk k n nm o l)=false by rw[Ex.sv,if_neg (by omega),if_neg (by omega)]);have z2:=(Zc HBX.out).1 2 _ rfl;have HC:=Zh (ebuf_any base b PV ru F W0 a bk nm H0.out);go_enter Tryz.func99,Tryz.ntmps99;go_upto_region 1 with fail;rw[←HW0];clear HW0;go_wp2_with fail;refine HC.out.mono ?_;rintro e w1 ⟨he,hf1⟩;have HF1:=Zh (HF0.out.trans hf1);clear hf1;generalize hx:a.g nm=x at*;clear hx;cases hq:x.bufOk ru with
  |false=>
   rw[hq] at he;obtain rfl:=he.f;clear he;have HQ:=Zh hq;clear hq;go_wp2_with fail;exact⟨rfl,vaR_f (by rw[HE.out,HQ.out]),HF1.out⟩
  |true=>
   rw[hq] at he;obtain rfl:=he.t;clear he;have HQ:=Zh hq;clear hq;go_wp2_with fail;go_ret;rw[HV.out];exact⟨vaR_t (by rw[HE.out,HQ.out]),HF1.out⟩
 ·obtain⟨e1,rfl⟩:∃e1,l=[e1]:=by
   cases l with
   |nil=>simp at h2
   |cons e1 l=>cases l with
    |nil=>exact⟨e1,rfl⟩
    |cons _ _=>simp at h2
  clear h2;have HE:=Zh (show Ex.so ru a.g (.mk k n nm o [e1])=((a.g nm).bufOk ru&&(Ex.so ru a.g e1&&chk ru 2 (!Ex.sv a.g e1))) by rw[Ex.so,if_neg (by omega),if_neg (by omega),if_pos h1,Ex.sos,Ex.sos,Bool.and_true];rfl);have HV:=Zh (show Ex.sv a.g (.mk k n nm o [e1])=(a.g nm).sec by rw[Ex.sv,if_pos (.inr h1)]);have z2:=(Zc HBX.out).1 2 _ rfl;have HC:=Zh (ebuf_any base b PV ru F W0 a bk nm H0.out);go_enter Tryz.func99,Tryz.ntmps99;go_upto_region 1 with fail;rw[show(w.alloc (.cells #[vu8 k,vu64 n,.string nm,vu8 o,.slice A 1 c] 48))=W0 from HW0.symm];clear HW0;go_wp2_with fail;refine HC.out.mono ?_;rintro e w1 ⟨he,hf1⟩;have HG1:=Zh hf1;have HF1:=Zh (HF0.out.trans hf1);clear hf1;generalize hx:a.g nm=x at*;clear hx;cases hq:x.bufOk ru with
  |false=>
   rw[hq] at he;obtain rfl:=he.f;clear he;have HQ:=Zh hq;clear hq;go_wp2_with fail;exact⟨rfl,vaR_f (by rw[HE.out,HQ.out];rfl),HF1.out⟩
  |true=>
   rw[hq] at he;obtain rfl:=he.t;clear he;have HQ:=Zh hq;clear hq;obtain⟨W2,HW2⟩:∃W2,W2=w1.alloc (.cells #[.bool x.buf,.bool x.sec,.bool x.mt,.bool x.own,.bool x.set,.bool x.gone,.int .i64 x.lent,.int .i64 x.loops] 104):=⟨_,rfl⟩;have hf2:Fr Non w1 W2:=by rw[HW2];exact(Zf _).alloc _
   have HX2:=Zh (show W2.heap[w1.heap.size]? =some (.cells #[.bool x.buf,.bool x.sec,.bool x.mt,.bool x.own,.bool x.set,.bool x.gone,.int .i64 x.lent,.int .i64 x.loops] 104 (0,0)) by rw[HW2];exact blk_new _ _ _);have HG2:=Zh (HG1.out.trans hf2);have HF2:=Zh (HF1.out.trans hf2);clear hf2;have H2:=Zh (H0.out.stay HG2.out);obtain⟨b1,o1,A1,c1,rfl,hb1,e0,e1',e2,e3,e4,p1,p2,p3⟩:=at_ex (HR.out.fr HG2.out (fun _ _=>non _) (fun _ h=>h)) 0 (by simp);simp only[List.getElem_cons_zero,Nat.zero_mul,Nat.add_zero] at e0 e1' e2 e3 e4 p1 p2 p3;have hr1:Calls Tryz.prog 99 #[.pointer (some ⟨b,0,none⟩),exV e1.kind e1.num e1.name e1.op A1 e1.kids.length c1] W2 fun e w'=>VaR a.n ru (Ex.so ru a.g e1) (.bool (Ex.sv a.g e1)) e∧Fr Non W2 w':=by
    have:=IH.out e1.kind e1.num e1.name e1.op e1.kids (d+1) ok A1 c1 base b PV ru F W2 a bk (by have:=HNN.out;rw[ex_eta];simp[Ex.size,Ex.sizes] at this;omega) (by rw[ex_eta];exact HK.out 0 (by simp)) p3 H2.out;rw[ex_eta] at this;exact this
   have HR1:=Zh hr1;clear hr1 p3 z0 z2;have z4:=(Zc (Zb HBX.out HG2.out (non _))).1 4 _ rfl;go_upto_region 8 with fail;rw[←HW2];clear HW2;go_wp2_with fail;refine HR1.out.mono ?_;rintro e w3 ⟨he,hf3⟩;have HF3:=Zh (HF2.out.trans hf3);have HX3:=Zh (Zb HX2.out hf3 (non _));have H3:=Zh (H2.out.stay hf3);clear hf3;cases hs1:Ex.so ru a.g e1 with
   |false=>
    rw[hs1] at he;obtain rfl:=he.f;clear he;have HS1:=Zh hs1;clear hs1;go_wp2_with fail;exact⟨rfl,vaR_f (by rw[HE.out,HQ.out,HS1.out];rfl),HF3.out⟩
   |true=>
    rw[hs1] at he;obtain rfl:=he.t;clear he;have HS1:=Zh hs1;clear hs1;clear e0 e1' e2 e3 e4 z4;generalize hv1:Ex.sv a.g e1=v1 at*;have HV1:=Zh hv1;clear hv1;go_wp2_with fail;refine(eclear_any base b PV ru F w3 a bk (!v1) H3.out).mono ?_;rintro e w4 ⟨he,rfl⟩;cases hc:chk ru 2 (!v1) with
    |false=>
     rw[hc] at he;obtain rfl:=he.f;clear he;have HCC:=Zh hc;clear hc;go_wp2_with fail;exact⟨rfl,vaR_f (by rw[HE.out,HQ.out,HS1.out,HCC.out];rfl),HF3.out⟩
    |true=>
     rw[hc] at he;obtain rfl:=he.t;clear he;have HCC:=Zh hc;clear hc;have y1:=(Zc HX3.out).1 1 _ rfl;go_wp2_with fail;go_ret;rw[HV.out];exact⟨vaR_t (by rw[HE.out,HQ.out,HS1.out,HCC.out];rfl),HF3.out⟩
 ·obtain⟨e1,e2,rfl⟩:∃e1 e2,l=[e1,e2]:=by
   match l,h2 with
   |[e1,e2],_=>exact⟨e1,e2,rfl⟩
  clear h2;obtain⟨q13,h13⟩:∃q,((o.toNat:Int)==13)=q:=⟨_,rfl⟩;obtain⟨q14,h14⟩:∃q,((o.toNat:Int)==14)=q:=⟨_,rfl⟩;have k13:(o.toNat==13)=q13:=by rw[←h13,Bool.eq_iff_iff];simp;omega
  have k14:(o.toNat==14)=q14:=by rw[←h14,Bool.eq_iff_iff];simp;omega
  have n13:((o.toNat:Int)!=13)= !q13:=by rw[bne,h13]
  have n14:((o.toNat:Int)!=14)= !q14:=by rw[bne,h14]
  obtain⟨v1,hv1⟩:∃v,Ex.sv a.g e1=v:=⟨_,rfl⟩;obtain⟨v2,hv2⟩:∃v,Ex.sv a.g e2=v:=⟨_,rfl⟩;have HE:=Zh (show Ex.so ru a.g (.mk k n nm o [e1,e2])=((Ex.so ru a.g e1&&(Ex.so ru a.g e2&&true))&&chk ru 2 (!(v1||v2)|| !(q13||q14))) by rw[Ex.so,if_neg (by omega),if_neg (by omega),if_neg (by omega),if_pos h1,Ex.sos,Ex.sos,Ex.sos,k13,k14,←hv1,←hv2];rfl);have HV:=Zh (show Ex.sv a.g (.mk k n nm o [e1,e2])=(v1||v2) by rw[Ex.sv,if_neg (by omega),if_pos h1,←hv1,←hv2];rfl);clear h13 h14 k13 k14;obtain⟨b1,o1,A1,c1,hA,hb1,x0,x1,x2,x3,x4,p1,p2,p3⟩:=at_ex HR.out 0 (by simp);obtain⟨b1',o1',A2,c2,hA',_,y0,y1,y2,y3,y4,q1,q2,q3⟩:=at_ex HR.out 1 (by simp);obtain⟨rfl,rfl⟩:b1=b1'∧o1=o1':=by rw[hA] at hA';cases hA';exact⟨rfl,rfl⟩
  subst hA;clear hA';simp only[List.getElem_cons_zero,List.getElem_cons_succ,Nat.zero_mul,Nat.one_mul,Nat.add_zero] at x0 x1 x2 x3 x4 p1 p2 p3 y0 y1 y2 y3 y4 q1 q2 q3;have hr1:∀w1,Fr Non W0 w1→Calls Tryz.prog 99 #[.pointer (some ⟨b,0,none⟩),exV e1.kind e1.num e1.name e1.op A1 e1.kids.length c1] w1 fun e w'=>VaR a.n ru (Ex.so ru a.g e1) (.bool v1) e∧Fr Non w1 w':=fun w1 hf1=>by
   have:=IH.out e1.kind e1.num e1.name e1.op e1.kids (d+1) ok A1 c1 base b PV ru F w1 a bk (by have:=HNN.out;rw[ex_eta];simp[Ex.size,Ex.sizes] at this;omega) (by rw[ex_eta];exact HK.out 0 (by simp)) (p3.fr hf1 (fun _ _=>non _) (fun _ h=>h)) (H0.out.stay hf1);rw[ex_eta,hv1] at this;exact this
  have hr2:∀w1,Fr Non W0 w1→Calls Tryz.prog 99 #[.pointer (some ⟨b,0,none⟩),exV e2.kind e2.num e2.name e2.op A2 e2.kids.length c2] w1 fun e w'=>VaR a.n ru (Ex.so ru a.g e2) (.bool v2) e∧Fr Non w1 w':=fun w1 hf1=>by
   have:=IH.out e2.kind e2.num e2.name e2.op e2.kids (d+1) ok A2 c2 base b PV ru F w1 a bk (by have:=HNN.out;rw[ex_eta];simp[Ex.size,Ex.sizes] at this;omega) (by rw[ex_eta];exact HK.out 1 (by simp)) (q3.fr hf1 (fun _ _=>non _) (fun _ h=>h)) (H0.out.stay hf1);rw[ex_eta,hv2] at this;exact this
  have HR1:=Zh hr1;have HR2:=Zh hr2;clear hr1 hr2 p3 q3 hv1 hv2;have z4:W0.cell? ⟨w.heap.size,4,none⟩=some (.slice (some ⟨b1,o1,none⟩) 2 c):=(Zc HBX.out).1 4 _ rfl;have hS:∀w',Fr Non W0 w'→w'.cell? ⟨w.heap.size,4,none⟩=some (.slice (some ⟨b1,o1,none⟩) 2 c)∧w'.cell? ⟨b1,o1,none⟩=some (vu8 e1.kind)∧w'.cell? ⟨b1,o1+1,none⟩=some (vu64 e1.num)∧w'.cell? ⟨b1,o1+2,none⟩=some (.string e1.name)∧w'.cell? ⟨b1,o1+3,none⟩=some (vu8 e1.op)∧w'.cell? ⟨b1,o1+4,none⟩=some (.slice A1 e1.kids.length c1)∧
    w'.cell? ⟨b1,o1+5,none⟩=some (vu8 e2.kind)∧w'.cell? ⟨b1,o1+5+1,none⟩=some (vu64 e2.num)∧w'.cell? ⟨b1,o1+5+2,none⟩=some (.string e2.name)∧w'.cell? ⟨b1,o1+5+3,none⟩=some (vu8 e2.op)∧w'.cell? ⟨b1,o1+5+4,none⟩=some (.slice A2 e2.kids.length c2):=fun w' hf=>
   ⟨hf.cell' z4 (non _),hf.cell' x0 (non _),hf.cell' x1 (non _),hf.cell' x2 (non _),hf.cell' x3 (non _),hf.cell' x4 (non _),hf.cell' y0 (non _),hf.cell' y1 (non _),hf.cell' y2 (non _),hf.cell' y3 (non _),hf.cell' y4 (non _)⟩
  have HSS:=Zh hS;clear hS;go_enter Tryz.func99,Tryz.ntmps99;go_upto_region 1 with fail;rw[show(w.alloc (.cells #[vu8 k,vu64 n,.string nm,vu8 o,.slice (some ⟨b1,o1,none⟩) 2 c] 48))=W0 from HW0.symm];clear HW0;go_upto_region 11 with fail;clear z0;cases hs1:Ex.so ru a.g e1 with
  |false=>
   have HD:=Zh (vaR_f (n:=a.n) (ru:=ru) (v:=.bool (Ex.sv a.g (.mk k n nm o [e1,e2]))) (show Ex.so ru a.g (.mk k n nm o [e1,e2])=false by rw[HE.out,hs1];rfl));rw[hs1] at HR1;clear hs1;cases hs2:Ex.so ru a.g e2 with
   |false=>
    rw[hs2] at HR2;clear hs2
    go_region_with (first|(go_at_call_of 99 A1;refine(HR1.out W0.drew (Zf W0).drew).mono ?_;rintro e w3 ⟨he,hf3⟩;obtain rfl:=he.f;go_wp2_with fail;refine dead_here (w:=W0) ?_ ?_;exact⟨rfl,HD.out,HF0.out.trans ((Zf W0).drew.trans hf3)⟩)|(go_at_call_of 99 A2;refine(HR2.out W0.drew (Zf W0).drew).mono ?_;rintro e w3 ⟨he,hf3⟩;obtain rfl:=he.f;go_wp2_with fail;refine dead_here (w:=W0) ?_ ?_;exact⟨rfl,HD.out,HF0.out.trans ((Zf W0).drew.trans hf3)⟩))
    all_goals trivial
   |true=>
    rw[hs2] at HR2;clear hs2
    go_region_with (first|(go_at_call_of 99 A1;refine(HR1.out w4 ((Zf W0).drew.trans hf4)).mono ?_;rintro e w3 ⟨he,hf3⟩;obtain rfl:=he.f;go_wp2_with fail;refine dead_here (w:=W0) ?_ ?_;exact⟨rfl,HD.out,HF0.out.trans ((Zf W0).drew.trans (hf4.trans hf3))⟩)|(go_at_call_of 99 A1;refine(HR1.out W0.drew (Zf W0).drew).mono ?_;rintro e w3 ⟨he,hf3⟩;obtain rfl:=he.f;go_wp2_with fail;refine dead_here (w:=W0) ?_ ?_;exact⟨rfl,HD.out,HF0.out.trans ((Zf W0).drew.trans hf3)⟩)|(go_at_call_of 99 A2;refine(HR2.out W0.drew (Zf W0).drew).mono ?_;rintro e w4 ⟨he,hf4⟩;obtain rfl:=he.t;obtain⟨u4,f0,f1,f2,f3,f4,g0,g1,g2,g3,g4⟩:=HSS.out w4 ((Zf W0).drew.trans hf4)))
    all_goals trivial
  |true=>
   cases hs2:Ex.so ru a.g e2 with
   |false=>
    have HD:=Zh (vaR_f (n:=a.n) (ru:=ru) (v:=.bool (Ex.sv a.g (.mk k n nm o [e1,e2]))) (show Ex.so ru a.g (.mk k n nm o [e1,e2])=false by rw[HE.out,hs1,hs2];rfl));rw[hs1] at HR1;rw[hs2] at HR2;clear hs1 hs2
    go_region_with (first|(go_at_call_of 99 A2;refine(HR2.out w4 ((Zf W0).drew.trans hf4)).mono ?_;rintro e w3 ⟨he,hf3⟩;obtain rfl:=he.f;go_wp2_with fail;refine dead_here (w:=W0) ?_ ?_;exact⟨rfl,HD.out,HF0.out.trans ((Zf W0).drew.trans (hf4.trans hf3))⟩)|(go_at_call_of 99 A2;refine(HR2.out W0.drew (Zf W0).drew).mono ?_;rintro e w3 ⟨he,hf3⟩;obtain rfl:=he.f;go_wp2_with fail;refine dead_here (w:=W0) ?_ ?_;exact⟨rfl,HD.out,HF0.out.trans ((Zf W0).drew.trans hf3)⟩)|(go_at_call_of 99 A1;refine(HR1.out W0.drew (Zf W0).drew).mono ?_;rintro e w4 ⟨he,hf4⟩;obtain rfl:=he.t;obtain⟨u4,f0,f1,f2,f3,f4,g0,g1,g2,g3,g4⟩:=HSS.out w4 ((Zf W0).drew.trans hf4)))
    all_goals trivial
   |true=>
    rw[hs1] at HR1 HE;rw[hs2] at HR2 HE;clear hs1 hs2;have u4:=ext_cell z4;have f0:=ext_cell x0;have f1:=ext_cell x1;have f2:=ext_cell x2;have f3:=ext_cell x3;have f4:=ext_cell x4;have g0:=ext_cell y0;have g1:=ext_cell y1;have g2:=ext_cell y2;have g3:=ext_cell y3;have g4:=ext_cell y4;have hlb:b1<W0.heap.size:=World.block_lt_of_cell? _ _ x0;clear z4 x0 x1 x2 x3 x4 y0 y1 y2 y3 y4;refine wp_region_ext (by kernel_rfl) (by kernel_rfl) ?_
    repeat (go_big_quiet_step (fail))
    go_big_quiet_want;go_big_quiet_op;apply Exists.intro;refine⟨fun y=>?_,?_⟩
    ·exact calls_ext (v:=.bool v1) ((HR1.out _ (ext_fr _ _)).mono fun e w' h=>⟨h.1.t,h.2⟩)
    go_big_quiet_on
    repeat (go_big_quiet_step (fail))
    go_big_quiet_want;go_big_quiet_op;apply Exists.intro;refine⟨fun y=>?_,?_⟩
    ·exact calls_ext (v:=.bool v2) ((HR2.out _ (ext_fr _ _)).mono fun e w' h=>⟨h.1.t,h.2⟩)
    go_big_quiet_on
    repeat (go_big_quiet_step (fail))
    refine wpQuiet_nil ?_;intro w3 hf3;clear u4 f0 f1 f2 f3 f4 g0 g1 g2 g3 g4 hlb;have HF3:=Zh (HF0.out.trans hf3);have H3:=Zh (H0.out.stay hf3);have z3:=(Zc (Zb HBX.out hf3 (non _))).1 3 _ rfl;clear hf3;cases v1<;>cases v2<;>cases q13<;>cases q14;all_goals
     go_wp2_with fail;refine(eclear_any base b PV ru F w3 a bk _ H3.out).mono ?_;rintro e w4 ⟨he,rfl⟩
     first
      |(obtain⟨c2,hc2⟩:∃c,chk ru 2 true=c:=⟨_,rfl⟩
        rw[hc2] at he;have hc3:c2=true:=by rw[←hc2];exact chk_tt ru 2
        subst hc3;obtain rfl:=he.t;clear he hc2;go_wp2_with fail;go_ret;rw[HV.out];exact⟨vaR_t (by rw[HE.out];exact chk_tt ru 2),HF3.out⟩)
      |(obtain⟨c2,hc2⟩:∃c,chk ru 2 false=c:=⟨_,rfl⟩
        rw[hc2] at he;have HC2:=Zh hc2;clear hc2;cases c2
        ·obtain rfl:=he.f;clear he;go_wp2_with fail;exact⟨rfl,vaR_f (by rw[HE.out];exact HC2.out),HF3.out⟩
        ·obtain rfl:=he.t;clear he;go_wp2_with fail;go_ret;rw[HV.out];exact⟨vaR_t (by rw[HE.out];exact HC2.out),HF3.out⟩)
theorem einto_any (e:Ex) (sec:Bool) (ok:Nat→Prop) (A:Option Addr) (c base b:Nat) (PV:Value) (ru:Int) (F:Nat) (w:World) (a:Ev) (bk:Nat) (hm:exM e=true) (hr:RdRows ok w 5 A 0 (Ex.ds e.kids)) (h:EvAt base b PV ru F w a bk):
  Calls Tryz.prog 66 #[.pointer (some ⟨b,0,none⟩),exV e.kind e.num e.name e.op A e.kids.length c,.bool sec] w fun r w'=>UnR a.n ru (a.into ru e sec) r∧Fr Non w w':=by
 obtain⟨W0,HW0⟩:∃W0,W0=w.alloc (.cells #[vu8 e.kind,vu64 e.num,.string e.name,vu8 e.op,.slice A e.kids.length c] 48):=⟨_,rfl⟩;have hf0:Fr Non w W0:=by rw[HW0];exact(Zf w).alloc _
 have hbx:W0.heap[w.heap.size]? =some (.cells #[vu8 e.kind,vu64 e.num,.string e.name,vu8 e.op,.slice A e.kids.length c] 48 (0,0)):=by rw[HW0];exact blk_new _ _ _
 have H0:=Zh (h.stay hf0);clear h;have hs:=esec_any (Ex.size e) e.kind e.num e.name e.op e.kids 1 ok A c base b PV ru F W0 a bk (by rw[ex_eta];exact Nat.le_refl _) (by rw[ex_eta];exact hm) (hr.fr hf0 (fun _ _=>non _) (fun _ h=>h)) H0.out;rw[ex_eta] at hs;have HS:=Zh hs;clear hs hr hm;have HF0:=Zh hf0;clear hf0;have x0:=(Zc hbx).1 0 _ rfl;have x1:=(Zc hbx).1 1 _ rfl;have x2:=(Zc hbx).1 2 _ rfl;have x3:=(Zc hbx).1 3 _ rfl;have x4:=(Zc hbx).1 4 _ rfl;clear hbx;have HE:=Zh (show a.into ru e sec=(Ex.so ru a.g e&&chk ru 2 (sec|| !Ex.sv a.g e)) from rfl);go_enter Tryz.func66,Tryz.ntmps66;go_upto_region 1 with fail;rw[←HW0];clear HW0;go_wp2_with fail;refine HS.out.mono ?_;rintro r w1 ⟨he,hf1⟩;have HF1:=Zh (HF0.out.trans hf1);have H1:=Zh (H0.out.stay hf1);clear hf1 x0 x1 x2 x3 x4;obtain⟨s1,hs1⟩:∃x,Ex.so ru a.g e=x:=⟨_,rfl⟩;obtain⟨v1,hv1⟩:∃x,Ex.sv a.g e=x:=⟨_,rfl⟩;rw[hs1,hv1] at he HE;clear hs1 hv1;cases s1 with
 |false=>
  obtain rfl:=he.f;clear he;go_wp2_with fail;exact⟨rfl,unR_f (by rw[HE.out];rfl),HF1.out⟩
 |true=>
  obtain rfl:=he.t;clear he;cases sec<;>cases v1;all_goals
   go_wp2_with fail;refine(eclear_any base b PV ru F w1 a bk _ H1.out).mono ?_;rintro r w2 ⟨he,rfl⟩;generalize hc:chk ru 2 _=cc at he;have HC:=Zh hc;clear hc;cases cc
   ·obtain rfl:=he.f;clear he;go_wp2_with fail;exact⟨rfl,unR_f (by rw[HE.out];exact HC.out),HF1.out⟩
   ·obtain rfl:=he.t;clear he;go_wp2_with fail
    go_end0
    exact⟨unR_t (by rw[HE.out];exact HC.out),HF1.out⟩
theorem esecx_any (e:Ex) (ok:Nat→Prop) (A:Option Addr) (c base b:Nat) (PV:Value) (ru:Int) (F:Nat) (w:World) (a:Ev) (bk:Nat) (hm:exM e=true) (hr:RdRows ok w 5 A 0 (Ex.ds e.kids)) (h:EvAt base b PV ru F w a bk):
  Calls Tryz.prog 99 #[.pointer (some ⟨b,0,none⟩),exV e.kind e.num e.name e.op A e.kids.length c] w fun r w'=>VaR a.n ru (Ex.so ru a.g e) (.bool (Ex.sv a.g e)) r∧Fr Non w w':=by
 have hs:=esec_any (Ex.size e) e.kind e.num e.name e.op e.kids 1 ok A c base b PV ru F w a bk (by rw[ex_eta];exact Nat.le_refl _) (by rw[ex_eta];exact hm) hr h;rw[ex_eta] at hs;exact hs
section
section
variable (ru:Int) (P:List Fu) (F:Nat) (s:St) (a:Ev)
theorem evs_1 (h:s.kind.toNat=1):evStmt ru P F s a=a.if (a.into ru (exAt s.ex 0) s.sec) (.ok (a.give s.name (Nm.num s.sec true))):=by
 cases s with|mk=>exact ev_1 _ _ _ _ _ _ _ _ _ _ _ _ _ h
theorem evs_2 (h:s.kind.toNat=2):evStmt ru P F s a=a.if (a.setOk ru s.name (exAt s.ex 0)) (.ok a):=by
 cases s with|mk=>exact ev_2 _ _ _ _ _ _ _ _ _ _ _ _ _ h
theorem evs_3 (h:s.kind.toNat=3):evStmt ru P F s a=a.if (a.into ru (exAt s.ex 0) false) (.ok (a.give s.name (Nm.bufv s.sec true true))):=by
 cases s with|mk=>exact ev_3 _ _ _ _ _ _ _ _ _ _ _ _ _ h
theorem evs_4 (h:s.kind.toNat=4):evStmt ru P F s a=a.if (a.putOk ru s.name (exAt s.ex 0) (exAt s.ex 1)) (.ok a):=by
 cases s with|mk=>exact ev_4 _ _ _ _ _ _ _ _ _ _ _ _ _ h
theorem evs_5 (h:s.kind.toNat=5):evStmt ru P F s a=a.if (a.into ru (exAt s.ex 0) false) (match evBlock ru P F s.body a with
  | .error x=>.error x
  | .ok a1=>match evBlock ru P F s.els (a1.with a.nm) with
    | .error x=>.error x
    | .ok a2=>.ok (a2.with (ngone a2.nm a1.nm))):=by
 cases s with|mk=>exact ev_5 _ _ _ _ _ _ _ _ _ _ _ _ _ h
theorem evs_67 (h:s.kind.toNat=6∨s.kind.toNat=7):evStmt ru P F s a=a.if (a.into ru (exAt s.ex 0) false) (match evBlock ru P F s.body (a.loopIn s.name) with
  | .error x=>.error x
  | .ok a1=>.ok ((a1.at (a1.loops-1)).del s.name)):=by
 cases s with|mk=>exact ev_67 _ _ _ _ _ _ _ _ _ _ _ _ _ h
theorem evs_8 (h:s.kind.toNat=8):evStmt ru P F s a=a.if (a.lendOk ru s.frm s.mt s.ex) (match evBlock ru P F s.body (a.lendIn s.name s.frm s.mt) with
  | .error x=>.error x
  | .ok a1=>.ok (a1.lendOut s.name s.frm (a.g s.frm).lent)):=by
 cases s with|mk=>exact ev_8 _ _ _ _ _ _ _ _ _ _ _ _ _ h
theorem evs_9 (h:s.kind.toNat=9):evStmt ru P F s a=a.if (a.moveOk ru s.frm) (.ok ((a.put s.frm {a.g s.frm with gone:=true}).give s.name (Nm.bufv (a.g s.frm).sec true true))):=by
 cases s with|mk=>exact ev_9 _ _ _ _ _ _ _ _ _ _ _ _ _ h
theorem evs_10 (h:s.kind.toNat=10):evStmt ru P F s a=a.if (Ex.so ru a.g (exAt s.ex 0)) (.ok (a.give s.name Nm.zero)):=by
 cases s with|mk=>exact ev_10 _ _ _ _ _ _ _ _ _ _ _ _ _ h
theorem evs_11 (h:s.kind.toNat=11):evStmt ru P F s a=a.if (a.callOk ru (calleeM P F s.frm) s.name s.ex s.args) (.ok (if emp s.name then a else a.give s.name (Nm.num (calleeM P F s.frm).sec false))):=by
 cases s with|mk=>exact ev_11 _ _ _ _ _ _ _ _ _ _ _ _ _ h
theorem evs_12 (h:11<s.kind.toNat):evStmt ru P F s a=a.if (a.sealOk ru P F) (.ok a):=by
 cases s with|mk=>exact ev_12 _ _ _ _ _ _ _ _ _ _ _ _ _ h
end
def StE (base b:Nat) (PV:Value) (ru:Int) (F:Nat) (w:World) (bk:Nat) (r:Er Ev) (e:Ending) (w':World):Prop:=match r with
 | .error n=>e= .panicked [{v:=faultV n (codeOf ru),recovered:=false}]∧Fr (ES b bk) w w'
 | .ok a1=>∃bk1,e= .returned (.tuple #[])∧Fr (ES b bk) w w'∧EvAt base b PV ru F w' a1 bk1∧(bk1=bk∨w.heap.size≤bk1)
theorem stE_no {base b:Nat} {PV:Value} {ru:Int} {F:Nat} {w w':World} {bk:Nat} {a:Ev} {ok:Bool} {r:Er Ev} {R:Er Ev} (hR:R=a.if ok r) (h:ok=false) (hf:Fr Non w w'):StE base b PV ru F w bk R (.panicked [{v:=faultV a.n (codeOf ru),recovered:=false}]) w':=by
 subst hR h;exact⟨rfl,hf.non⟩
theorem stE_yes {base b:Nat} {PV:Value} {ru:Int} {F:Nat} {w w':World} {bk bk1:Nat} {a a1:Ev} {ok:Bool} {R:Er Ev} (hR:R=a.if ok (.ok a1)) (h:ok=true) (hf:Fr (ES b bk) w w') (he:EvAt base b PV ru F w' a1 bk1) (hb:bk1=bk∨w.heap.size≤bk1):StE base b PV ru F w bk R (.returned (.tuple #[])) w':=by
 subst hR h;exact⟨bk1,rfl,hf,he,hb⟩
theorem ex_cells {ok:Nat→Prop} {w:World} {A:Option Addr} {ex:List Ex} (hr:RdRows ok w 5 A 0 (Ex.ds ex)) (i:Nat) (hi:i<ex.length):
  ∃xb xo xA xc,A=some ⟨xb,xo,none⟩∧w.cell? ⟨xb,xo+i*5,none⟩=some (vu8 (exAt ex i).kind)∧w.cell? ⟨xb,xo+i*5+1,none⟩=some (vu64 (exAt ex i).num)∧w.cell? ⟨xb,xo+i*5+2,none⟩=some (.string (exAt ex i).name)∧
   w.cell? ⟨xb,xo+i*5+3,none⟩=some (vu8 (exAt ex i).op)∧w.cell? ⟨xb,xo+i*5+4,none⟩=some (.slice xA (exAt ex i).kids.length xc)∧RdRows ok w 5 xA 0 (Ex.ds (exAt ex i).kids):=by
 obtain⟨b,o,A',c,e,hb,h0,h1,h2,h3,h4,_,_,hk⟩:=at_ex hr i hi;have he:exAt ex i=ex[i]:=by rw[exAt,List.getD_eq_getElem?_getD,List.getElem?_eq_getElem hi,Option.getD_some]
 rw[he];exact⟨b,o,A',c,e,h0,h1,h2,h3,h4,hk⟩
theorem exs_all {ex:List Ex} {i:Nat} (h:ex.all exM=true) (hi:i<ex.length):exM (exAt ex i)=true:=by
 rw[List.all_eq_true] at h;rw[exAt,List.getD_eq_getElem?_getD,List.getElem?_eq_getElem hi,Option.getD_some];exact h _ (List.getElem_mem hi)
theorem EvAt.upd {base b:Nat} {PV:Value} {ru:Int} {F:Nat} {w:World} {a:Ev} {bk:Nat} (h:EvAt base b PV ru F w a bk) (nm:ByteArray) (x:Nm):
  ∃w',(Instr.mapUpdate 99 (.map (some bk)) (.string nm) x.v).run Tryz.prog w= .ok () w'∧EvAt base b PV ru F w' (a.put nm x) bk∧Fr (ES b bk) w w':=by
 obtain⟨w',hr,hm,hf⟩:=h.nm.put undNm undStr nm x.v;rw[mput_nvs] at hm;exact⟨w',hr,⟨Zb h.blk hf (fun e=>h.ne e.symm),hm,h.hb,h.hk⟩,hf.mono fun _ _ h=>.inr h⟩
theorem EvAt.rm {base b:Nat} {PV:Value} {ru:Int} {F:Nat} {w:World} {a:Ev} {bk:Nat} (h:EvAt base b PV ru F w a bk) (nm:ByteArray) (ty:TypeId):
  ∃w',(Builtin.delete_ #[99,9] ty #[.map (some bk),.string nm]).run Tryz.prog w= .ok (.tuple #[]) w'∧EvAt base b PV ru F w' (a.del nm) bk∧Fr (ES b bk) w w':=by
 obtain⟨w',hr,hm,hf⟩:=h.nm.del undNm undStr nm ty 9;rw[mdel_nvs] at hm;exact⟨w',hr,⟨Zb h.blk hf (fun e=>h.ne e.symm),hm,h.hb,h.hk⟩,hf.mono fun _ _ h=>.inr h⟩
end
end Go.Proofs.YtpkpgmnbheenbaaGreatDoor
