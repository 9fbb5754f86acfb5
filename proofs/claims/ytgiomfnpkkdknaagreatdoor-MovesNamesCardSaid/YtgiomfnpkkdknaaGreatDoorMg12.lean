/- Contracts and laws, Mg12 -/
import Derived.Test.YtgiomfnpkkdknaaGreatDoorMg01
import Derived.Test.YtgiomfnpkkdknaaGreatDoorMg02
import Derived.Test.YtgiomfnpkkdknaaGreatDoorMg03
import Derived.Test.YtgiomfnpkkdknaaGreatDoorMg11
import Derived.Deep.DeepCutAuto
import Derived.Deep.CutBlock
import Derived.Deep.RegionLaw
import Derived.Outline
namespace Go.Proofs.YtgiomfnpkkdknaaGreatDoor
open Go.RowKit
set_option linter.unusedVariables false
set_option linter.unusedSimpArgs false
set_option maxHeartbeats 8000000
set_option maxRecDepth 100000
theorem field_kind (t:Tk) (w:World):Sem.run Tryz.prog (Instr.field 134 (.agg #[vu8 t.kind,.string t.text,vu64 t.num,.int .i64 t.at_]) 0) w= .ok (vu8 t.kind) w:=by
 kernel_rfl
def fnsQ (ts:List Tk):Nat→List Fu→Nat→Nat→Option (List Fu)
 |0,_,_,_=>none
 |g+1,l,n,i=>if i<ts.length then
   (if(ts.getD i Tk.zero).kind.toNat=5 then some l
    else if l.length<16∧tkK ts 2 wFn i=true then(fnQ ts n (i+1)).bind fun r=>fnsQ ts g (l++[r.1]) r.2.1 r.2.2 else none)
  else none
def parseQ (s:ByteArray):Option (List Fu):=
 if s.size≤16384 then(cutS s (s.size+1) 0).bind fun L=>if(L++[endTk s]).length≤20000 then fnsQ (L++[endTk s]) 20 [] 0 0 else none
 else none
def progLen (q:Nat) (w:World):Nat:=match w.cell? ⟨q,0,none⟩ with
 |some (.slice _ n _)=>n
 |_=>0
theorem progLen_at {q:Nat} {w:World} {A:Option Addr} {n c:Nat} {T:TypeId} (h:w.heap[q]? =some (.cells #[.slice A n c] T (0,0))):progLen q w=n:=by
 have:=(Zc h).1 0 _ rfl;simp[progLen,this]
theorem step_fu {ops:Array Oper} {o:Oper} {a:Act} {K:Act→World→Prop} {Q:Exit→Act→World→Prop} {E:Prop} {w:World} (hgd:o.guard=none) (s x:Operand)
  (ho:o.op= .call {callee:=.builtin .append,args:=#[s,x],argTypes:=#[22,22]})
  (base w0:Nat) (v:Value) (l:List Fu) (y:Fu) (A1 A2 A3:Option Addr) (c1 c2 c3:Nat) (hs:a.eval s=v) (hown:Own base 36 5 w v (l.map Fu.d))
  (hr:FuRq (New w0 w) w y A1 A2 A3 c1 c2 c3) (hv:∀k,v.ownBlock=some k→k<w0) (hw0:base≤w0) (hw1:w0≤w.heap.size)
  (hx:a.eval x= .slice (some ⟨w.heap.size,0,none⟩) 1 1) (hn:l.length≤1000) (n1:Nat) (hn1:l.length+1=n1)
  (h:∀A7 c7 w7,n1≤c7→Own base 36 5 w7 (.slice A7 n1 c7) ((l++[y]).map Fu.d)→Fr (fun k=>base≤k∧v.ownBlock=some k) w w7→K (a.put o.dst (.slice A7 n1 c7)) w7):
  if Region.wanted o (yielded ops a.tmps)=true then Oper.wp Tryz.prog o a (w.alloc (.cells #[.string y.name,.slice A1 y.params.length c1,.slice A2 y.body.length c2,.bool y.sec,.slice A3 y.ret.length c3] 36)) K Q else E:=by
 subst hn1;have hfa:Fr Non w (w.alloc (.cells #[.string y.name,.slice A1 y.params.length c1,.slice A2 y.body.length c2,.bool y.sec,.slice A3 y.ret.length c3] 36)):=(Zf w).alloc _;have hlen:(l.map Fu.d).length=l.length:=List.length_map _;have hk:∀q,New w0 w q→okOwn base (w.alloc (.cells #[.string y.name,.slice A1 y.params.length c1,.slice A2 y.body.length c2,.bool y.sec,.slice A3 y.ret.length c3] 36)) v q:=fun q hq=>⟨Nat.le_trans hw0 hq.1,by have:=hq.2;simp;omega,fun e=>by have:=hv q e;have:=hq.1;omega⟩;refine step_own (z:=fuZ) (size:=5) (bytes:=96) (by kernel_rfl) (by kernel_rfl) rfl (by decide) (by decide) hgd s x ho base v (l.map Fu.d) hs (hown.fr hfa fun _ _=>non _) ⟨w.heap.size,0,none⟩ 1 hx y.d [.string y.name,.slice A1 y.params.length c1,.slice A2 y.body.length c2,.bool y.sec,.slice A3 y.ret.length c3]
  (chunk_fu y hr.params.1 hr.params.2.1 (hr.params.2.2.fr hfa (fun _ _=>non _) hk) hr.body.1 hr.body.2.1 (hr.body.2.2.fr hfa (fun _ _=>non _) hk) hr.ret.1 hr.ret.2.1 (hr.ret.2.2.fr hfa (fun _ _=>non _) hk)) (new_cells' rfl) (one_fu _ _ _ _ _ _ _ _ _ _ _) (by rw[hlen];exact hn) (by simp;omega) ?_
 intro A7 c7 w7 hc hO hf;rw[hlen] at hc hO ⊢;exact h A7 c7 w7 hc (by rw[List.map_append];exact hO) ((hfa.mono (T:=fun k=>base≤k∧v.ownBlock=some k) fun _ _ h=>h.elim).trans hf)
theorem qparse_any (s:ByteArray) (xs:List Fu) (w:World) (hx:parseQ s=some xs):
  Calls Tryz.prog 62 #[.string s] w fun e w'=>∃A c,e= .returned (.tuple #[.agg #[.slice A xs.length c],.agg #[.int .i64 0,.int .i64 0]])∧xs.length≤c∧Fr Non w w'∧RdRows (New w.heap.size w') w' 5 A 0 (xs.map Fu.d):=by
 rw[parseQ] at hx;split at hx
 case isFalse=>cases hx
 case isTrue hs=>
 cases hL:cutS s (s.size+1) 0 with
 |none=>rw[hL] at hx;cases hx
 |some L=>
 rw[hL,Option.bind_some] at hx;have htl:(L++[endTk s]).length=L.length+1:=by simp
 generalize hts:L++[endTk s]=ts at*;split at hx
 case isFalse=>cases hx
 case isTrue hlen=>
 obtain⟨W1,HW1⟩:∃W1,W1=(w.alloc (.cells #[.slice none 0 0] 24)).alloc (.cells #[.int .i64 0,.int .i64 0] 67):=⟨_,rfl⟩;have hf1:Fr Non w W1:=by rw[HW1];exact((Zf w).alloc _).alloc _
 have R1:=Zh (show W1.heap[w.heap.size]? =some (.cells #[.slice none 0 0] 24 (0,0)) by rw[HW1];exact blk_old (blk_new _ _ _));have Q1:=Zh (show W1.heap[w.heap.size+1]? =some (.cells #[.int .i64 0,.int .i64 0] 67 (0,0)) by rw[HW1];exact blk_new' (by simp) _ _);have F1:=Zh hf1;clear hf1;have HL:=Zh hL;have HTS:=Zh hts;have HTL:=Zh htl;have HX:=Zh hx
 clear hL htl hts hx;have hz1:=blk_lt Q1.out;go_enter Tryz.func62,Tryz.ntmps62;go_upto_region 1 with fail;rw[←HW1];clear HW1;go_wp2_with fail;refine(cut_any s L W1 hs HL.out).mono ?_;rintro e w2 ⟨A,c,rfl,hcl,hf,hr⟩;rw[HTS.out] at hr;rw[←HTL.out] at hcl ⊢;have TR2:=Zh hr;have R2:=Zh (Zb R1.out hf (non _));have Q2:=Zh (Zb Q1.out hf (non _));have F2:=Zh (F1.out.trans hf);have hz2:=hf.size;clear hf hr HL HTL;obtain⟨W3,HW3⟩:∃W3,W3=(((w2.alloc (.cells #[.int .i64 0,.int .i64 0] 67)).alloc (.cells #[.slice A ts.length c,.int .i64 0,.int .i64 0,.int .i64 0] 130)).alloc (.cells #[.pointer (some ⟨w2.heap.size+1,0,none⟩),.int .i64 0] 132)).alloc (.cells #[.slice none 0 0] 24):=⟨_,rfl⟩;have hf:Fr Non w2 W3:=by rw[HW3];exact((((Zf w2).alloc _).alloc _).alloc _).alloc _
 have E3:=Zh (show W3.heap[w2.heap.size+1]? =some (.cells #[.slice A ts.length c,.int .i64 0,.int .i64 0,.int .i64 0] 130 (0,0)) by rw[HW3];exact blk_old (blk_old (blk_new' (by simp) _ _)));have B3:=Zh (show W3.heap[w2.heap.size+1+1]? =some (.cells #[.pointer (some ⟨w2.heap.size+1,0,none⟩),.int .i64 0] 132 (0,0)) by rw[HW3];exact blk_old (blk_new' (by simp) _ _));have S3:=Zh (show W3.heap[w2.heap.size+1+1+1]? =some (.cells #[.slice none 0 0] 24 (0,0)) by rw[HW3];exact blk_new' (by simp) _ _);have R3:=Zh (Zb R2.out hf (non _));have Q3:=Zh (Zb Q2.out hf (non _));have F3:=Zh (F2.out.trans hf);have H3:=Zh (show PsAt (New W1.heap.size w2) ts A c (w2.heap.size+1) (w2.heap.size+1+1) W3 0 0 from⟨⟨E3.out,TR2.out.fr hf (fun _ _=>non _) fun _ h=>h,fun q hq=>by have:=hq.2;omega,hlen,Nat.zero_le _⟩,B3.out,by omega,fun q hq=>by have:=hq.2;omega⟩);clear hf;have hz3:=blk_lt S3.out;have HOK:=Zh (show∀q,New W1.heap.size w2 q→q<w2.heap.size from fun q hq=>hq.2);go_upto_region 6 with fail;rw[←HW3];clear HW3;have o1:w2.heap.size<w2.heap.size+1:=by omega
 have o2:w2.heap.size+1<w2.heap.size+1+1:=by omega
 have o3:w2.heap.size+1+1<w2.heap.size+1+1+1:=by omega
 generalize hq3:w2.heap.size+1+1+1=q3 at*;generalize hbp:w2.heap.size+1+1=bp at*;generalize hbe:w2.heap.size+1=be at*;clear hq3 hbp hbe;have hps:∀q,q≤w2.heap.size→¬PS be bp q:=fun q hq hp=>by rcases hp with hp|hp<;>omega
 have hpq:¬PS be bp q3:=fun hp=>by rcases hp with hp|hp<;>omega
 have hpB:∀q,q3+1≤q→¬PS be bp q:=fun q hq hp=>by rcases hp with hp|hp<;>omega
 go_loopw [] (fun wz=>∃(g1:Nat) (pq:List Fu) (n1 i1:Nat) (A1:Option Addr) (c1:Nat),fnsQ ts g1 pq n1 i1=some xs∧pq.length≤16∧pq.length≤c1∧PsAt (New W1.heap.size w2) ts A c be bp wz i1 n1∧wz.heap[q3]? =some (.cells #[.slice A1 pq.length c1] 24 (0,0))∧wz.heap[w.heap.size]? =some (.cells #[.slice none 0 0] 24 (0,0))∧wz.heap[w.heap.size+1]? =some (.cells #[.int .i64 0,.int .i64 0] 67 (0,0))∧Own (q3+1) 36 5 wz (.slice A1 pq.length c1) (pq.map Fu.d)∧Fr Non w wz) (fun wz=>17-progLen q3 wz)
 case atStart=>exact⟨20,[],0,0,none,0,HX.out,by simp,by simp,H3.out,S3.out,R3.out,Q3.out,Own.nil _ _ _ _,F3.out⟩
 case round=>
  obtain⟨g1,pq,n1,i1,A1,c1,hq,hl16,hlc,hps4,hS,hR,hQ,hO,hF⟩:=hrel;obtain⟨w4,rfl⟩:∃w4:World,w4=wr:=⟨_,rfl⟩;have H4:=Zh hps4;have S4:=Zh hS;have R4:=Zh hR;have Q4:=Zh hQ;have O4:=Zh hO;have F4:=Zh hF
  have hz4:=blk_lt hS;clear hps4 hS hR hQ hO hF;cases g1 with
  |zero=>rw[fnsQ] at hq;cases hq
  |succ g1=>
  rw[fnsQ] at hq;split at hq
  case isFalse=>cases hq
  case isTrue hi1=>
  rw[getD_at hi1] at hq;go_wp2_with fail;refine(pfine_any (New W1.heap.size w2) ts A c be bp w4 i1 n1 H4.out).mono ?_;rintro e wq ⟨rfl,rfl⟩;have p0:=(Zc H4.out.blk).1 0 _ rfl;by_cases hk5:ts[i1].kind.toNat=5
  ·rw[if_pos hk5] at hq;simp only[Option.some.injEq] at hq;subst hq;have hk5n:(((ts[i1].kind.toNat:Nat):Int)!=5)=false:=by rw[bne_eq_false_iff_eq];omega
   go_wp2_with fail;refine(look_any (New W1.heap.size w2) ts A c be w4 i1 H4.out.eye hi1).mono ?_;rintro e w9 ⟨rfl,hf⟩;have hfk:=field_kind ts[i1];unfold Tk.v;clear hk5;generalize ts[i1]=tj at*;have H9:=Zh (H4.out.stay hf);have S9:=Zh (Zb S4.out hf (non _));have R9:=Zh (Zb R4.out hf (non _));have Q9:=Zh (Zb Q4.out hf (non _));have F9:=Zh (F4.out.trans hf);have P9:=Zh (show RdRows (New (q3+1) w9) w9 5 A1 0 (pq.map Fu.d) from(O4.out.fr hf (fun _ _=>non _)).rows);clear hf p0;go_wp2_with fail;refine(pfine_any (New W1.heap.size w2) ts A c be bp w9 i1 n1 H9.out).mono ?_;rintro e wq ⟨rfl,rfl⟩;have l0:=(Zc S9.out).1 0 _ rfl;have r0:=(Zc R9.out).1 0 _ rfl;have rf:=(Zc R9.out).2;have q0:=(Zc Q9.out).1 0 _ rfl;have q1:=(Zc Q9.out).1 1 _ rfl;have qf:=(Zc Q9.out).2;go_wp2_with fail;have hfz:Fr (fun q=>q=w.heap.size∨q=w.heap.size+1) w9 (((w9.setCell ⟨w.heap.size,0,none⟩ (.slice A1 pq.length c1)).setCell ⟨w.heap.size+1,0,none⟩ (.int .i64 0)).setCell ⟨w.heap.size+1,1,none⟩ (.int .i64 0)):=(((Fr.refl (fun q=>q=w.heap.size∨q=w.heap.size+1) w9).setCell ⟨w.heap.size,0,none⟩ _ (.inl (.inl rfl))).setCell ⟨w.heap.size+1,0,none⟩ _ (.inl (.inr rfl))).setCell ⟨w.heap.size+1,1,none⟩ _ (.inl (.inr rfl));have hfa:Fr (fun q=>q=w.heap.size+1) (w9.setCell ⟨w.heap.size,0,none⟩ (.slice A1 pq.length c1)) (((w9.setCell ⟨w.heap.size,0,none⟩ (.slice A1 pq.length c1)).setCell ⟨w.heap.size+1,0,none⟩ (.int .i64 0)).setCell ⟨w.heap.size+1,1,none⟩ (.int .i64 0)):=((Fr.refl (fun q=>q=w.heap.size+1) _).setCell ⟨w.heap.size+1,0,none⟩ _ (.inl rfl)).setCell ⟨w.heap.size+1,1,none⟩ _ (.inl rfl);have hrz:(((w9.setCell ⟨w.heap.size,0,none⟩ (.slice A1 pq.length c1)).setCell ⟨w.heap.size+1,0,none⟩ (.int .i64 0)).setCell ⟨w.heap.size+1,1,none⟩ (.int .i64 0)).heap[w.heap.size]? =some (.cells #[.slice A1 pq.length c1] 24 (0,0)):=Zb (blk_set R9.out 0 (.slice A1 pq.length c1)) hfa (by omega);have hqa:(w9.setCell ⟨w.heap.size,0,none⟩ (.slice A1 pq.length c1)).heap[w.heap.size+1]? =some (.cells #[.int .i64 0,.int .i64 0] 67 (0,0)):=Zb Q9.out ((Fr.refl (fun q=>q=w.heap.size) w9).setCell ⟨w.heap.size,0,none⟩ _ (.inl rfl)) (by omega);have hqz:(((w9.setCell ⟨w.heap.size,0,none⟩ (.slice A1 pq.length c1)).setCell ⟨w.heap.size+1,0,none⟩ (.int .i64 0)).setCell ⟨w.heap.size+1,1,none⟩ (.int .i64 0)).heap[w.heap.size+1]? =some (.cells #[.int .i64 0,.int .i64 0] 67 (0,0)):=blk_set (blk_set hqa 0 _) 1 _;have HFZ:=Zh hfz;clear l0 r0 rf q0 q1 qf hfa hqa hfz;generalize (((w9.setCell ⟨w.heap.size,0,none⟩ (.slice A1 pq.length c1)).setCell ⟨w.heap.size+1,0,none⟩ (.int .i64 0)).setCell ⟨w.heap.size+1,1,none⟩ (.int .i64 0))=wz at*;have r0:=(Zc hrz).1 0 _ rfl;have q0:=(Zc hqz).1 0 _ rfl;have q1:=(Zc hqz).1 1 _ rfl;clear hrz hqz;refine bodyPost_ret (v:=.tuple #[.agg #[.slice A1 pq.length c1],.agg #[.int .i64 0,.int .i64 0]]) (by simp[results,Tryz.results62,go_sem,r0,q0,q1]) rfl ⟨_,_,rfl,hlc,F9.out.then HFZ.out fun k hk e=>by rcases e with e|e<;>omega,?_⟩;exact P9.out.fr HFZ.out (fun q hq e=>by have:=hq.1;rcases e with e|e<;>omega) fun k hk=>⟨by have:=hk.1;omega,Nat.lt_of_lt_of_le hk.2 HFZ.out.size⟩
  ·rw[if_neg hk5] at hq;split at hq
   case isFalse=>cases hq
   case isTrue hc8=>
   obtain⟨hl9,t1⟩:=hc8;cases hfn:fnQ ts n1 (i1+1) with
   |none=>rw[hfn] at hq;cases hq
   |some r=>
   obtain⟨y,n',j⟩:=r;rw[hfn,Option.bind_some] at hq;have T1:=Zh t1;have HFN:=Zh hfn;have HQ:=Zh hq;clear t1 hfn hq
   have hk5n:(((ts[i1].kind.toNat:Nat):Int)!=5)=true:=by rw[bne_iff_ne];omega
   have hne16:((pq.length:Int)==16)=false:=by rw[beq_eq_false_iff_ne];omega
   go_wp2_with fail;refine(look_any (New W1.heap.size w2) ts A c be w4 i1 H4.out.eye hi1).mono ?_;rintro e w6 ⟨rfl,hf⟩;have hfk:=field_kind ts[i1];unfold Tk.v;clear hk5;generalize ts[i1]=t0 at*;have H6:=Zh (H4.out.stay hf);have S6:=Zh (Zb S4.out hf (non _));have R6:=Zh (Zb R4.out hf (non _));have Q6:=Zh (Zb Q4.out hf (non _));have F6:=Zh (F4.out.trans hf);have O6:=Zh (O4.out.fr hf (fun _ _=>non _));have hz6:=hf.size;clear hf p0;have s0:=(Zc S6.out).1 0 _ rfl;go_wp2_with fail;refine(eword_any (New W1.heap.size w2) ts A c be bp w6 i1 n1 ⟨#[102,110]⟩ H6.out hi1).mono ?_;rintro e w5 ⟨rfl,hf,h⟩;rw[show tkK ts 2 ⟨#[102,110]⟩ i1=true from T1.out];rw[eyeI_t (show tkK ts 2 ⟨#[102,110]⟩ i1=true from T1.out)] at h;have H5:=Zh h;have S5:=Zh (Zb S6.out hf hpq);have R5:=Zh (Zb R6.out hf (hps _ (by omega)));have Q5:=Zh (Zb Q6.out hf (hps _ (by omega)));have F5:=Zh (F6.out.then hf fun k hk hp=>by rcases hp with hp|hp<;>omega);have O5:=Zh (O6.out.fr hf (fun k hk=>hpB k hk));have hz5:=hf.size;clear hf h s0 hfk hk5n hne16;have s0:=(Zc S5.out).1 0 _ rfl;have sf:=(Zc S5.out).2;have HV:=Zh O5.out.lt;have hBW:q3+1≤w5.heap.size:=by omega
   have HCE:=Zh (qfunc_any (New W1.heap.size w2) ts A c be bp w5.drew (i1+1) n1 y n' j (H5.out.stay (Zf w5).drew) (fun q hq=>by have:=HOK.out q hq;show q<w5.heap.size;omega) HFN.out);go_upto_region 11 with fail
   go_region_law (first|(refine step_fu rfl (.tmp 71) (.tmp 74) rfl (q3+1) w5.heap.size (.slice A1 pq.length c1) pq y B1 B2 B3 d1 d2 d3 rfl O8 hr8 (fun k hk=>(HV.out k hk).2) hBW hw8 rfl (by omega) (pq.length+1) rfl ?_;intro A7 c7 w9 hc7 hown7 hf7;have hb7:=Zb hb8 hf7 (fun e=>by have:=e.1;omega);have s0:=(Zc hb7).1 0 _ rfl;have sf:=(Zc hb7).2)|(go_simp;go_at_call 100;refine HCE.out.mono ?_;rintro e w8 ⟨B1,B2,B3,d1,d2,d3,rfl,hf8,h8,hr8⟩;have hb8:=Zb (Zb S5.out (Zf w5).drew (non _)) hf8 hpq;have s0:=(Zc hb8).1 0 _ rfl;have sf:=(Zc hb8).2;have s0a:=((Zf w8).alloc (.cells #[.string y.name,.slice B1 y.params.length d1,.slice B2 y.body.length d2,.bool y.sec,.slice B3 y.ret.length d3] 36)).cell' s0 (non _);have O8:=(O5.out.fr (Zf w5).drew (fun _ _=>non _)).fr hf8 (fun k hk=>hpB k hk);have hw8:w5.heap.size≤w8.heap.size:=hf8.size))
   all_goals
    have hb9:=blk_set hb7 0 (.slice A7 (pq.length+1) c7);have hf9:Fr (fun q=>q3≤q) w8 (w9.setCell ⟨q3,0,none⟩ (.slice A7 (pq.length+1) c7)):=(hf7.mono fun _ _ h=>Nat.le_of_lt h.1).setCell _ _ (.inl (Nat.le_refl _));have HZ9:=Zh (h8.away hf9 (by omega) (by omega) (fun q hq e=>by have:=HOK.out q hq;omega));have RR:=Zh (Zb (Zb (Zb R5.out (Zf w5).drew (non _)) hf8 (hps _ (by omega))) hf9 (by omega));have QQ:=Zh (Zb (Zb (Zb Q5.out (Zf w5).drew (non _)) hf8 (hps _ (by omega))) hf9 (by omega));have OO:=Zh (hown7.fr ((Fr.refl (fun q=>q=q3) w9).setCell ⟨q3,0,none⟩ (.slice A7 (pq.length+1) c7) (.inl rfl)) (fun k hk e=>by have e:k=q3:=e;omega));have FF:=Zh (((F5.out.trans (Zf w5).drew).then hf8 fun k hk hp=>by rcases hp with hp|hp<;>omega).then hf9 (S:=Non) (fun k hk e=>by have e:q3≤k:=e;omega));have BB:=Zh (show(w9.setCell ⟨q3,0,none⟩ (.slice A7 (pq.length+1) c7)).heap[q3]? =some (.cells #[.slice A7 (pq.length+1) c7] 24 (0,0)) from hb9);have hx1:=progLen_at S4.out;have hx2:=progLen_at BB.out;clear s0 s0a sf hf8 h8 hf7 hf9 hown7 hb7 hb8 hb9 O8 hr8;generalize w9.setCell ⟨q3,0,none⟩ (.slice A7 (pq.length+1) c7)=wn at*;clear w9;go_wp2_with fail;go_roundw
    case rel=>exact⟨g1,pq++[y],n',j,A7,c7,HQ.out,by simp;omega,by simpa using hc7,HZ9.out,by simpa using BB.out,RR.out,QQ.out,by simpa using OO.out,FF.out⟩
    case measure=>rw[hx1,hx2];omega
theorem qparsed_any (s:ByteArray) (xs:List Fu) (w:World) (hx:parseQ s=some xs):
  Calls Tryz.prog 44 #[.string s] w fun e w'=>∃A c,e= .returned (.agg #[.slice A xs.length c])∧xs.length≤c∧Fr Non w w'∧RdRows (New w.heap.size w') w' 5 A 0 (xs.map Fu.d):=by
 obtain⟨W1,HW1⟩:∃W1,W1=w.alloc (.cells #[.slice none 0 0] 24):=⟨_,rfl⟩;have hf1:Fr Non w W1:=by rw[HW1];exact(Zf w).alloc _
 have R1:=Zh (show W1.heap[w.heap.size]? =some (.cells #[.slice none 0 0] 24 (0,0)) by rw[HW1];exact blk_new _ _ _);have F1:=Zh hf1;clear hf1;have hz1:=blk_lt R1.out;go_enter Tryz.func44,Tryz.ntmps44;go_upto_region 1 with fail;rw[←HW1];clear HW1;go_wp2_with fail;refine(qparse_any s xs W1 hx).mono ?_;rintro e w2 ⟨A,c,rfl,hc,hf,hr⟩;have R2:=Zh (Zb R1.out hf (non _));have F2:=Zh (F1.out.trans hf);have X2:=Zh hr;have hz2:=hf.size;clear hf hr;have r0:=(Zc R2.out).1 0 _ rfl;have rf:=(Zc R2.out).2;have hlt:w.heap.size<w2.heap.size:=blk_lt R2.out;go_wp2_with fail;have hfz:Fr (fun q=>q=w.heap.size) w2 (((w2.setCell ⟨w.heap.size,0,none⟩ (.slice A xs.length c)).alloc (.cells #[.slice A xs.length c] 24)).alloc (.cells #[.int .i64 0,.int .i64 0] 67)):=(((Fr.refl (fun q=>q=w.heap.size) w2).setCell ⟨w.heap.size,0,none⟩ _ (.inl rfl)).alloc _).alloc _;have hrz:(((w2.setCell ⟨w.heap.size,0,none⟩ (.slice A xs.length c)).alloc (.cells #[.slice A xs.length c] 24)).alloc (.cells #[.int .i64 0,.int .i64 0] 67)).heap[w.heap.size]? =some (.cells #[.slice A xs.length c] 24 (0,0)):=blk_old (blk_old (blk_set R2.out 0 _));have HFZ:=Zh hfz;clear r0 rf hfz;generalize (((w2.setCell ⟨w.heap.size,0,none⟩ (.slice A xs.length c)).alloc (.cells #[.slice A xs.length c] 24)).alloc (.cells #[.int .i64 0,.int .i64 0] 67))=wz at*;have r0:=(Zc hrz).1 0 _ rfl;clear hrz;refine bodyPost_ret (v:=.agg #[.slice A xs.length c]) (by simp[results,Tryz.results44,go_sem,r0]) rfl ⟨_,_,rfl,hc,F2.out.then HFZ.out fun k hk e=>by have e:k=w.heap.size:=e;omega,?_⟩;exact X2.out.fr HFZ.out (fun q hq e=>by have:=hq.1;have e:q=w.heap.size:=e;omega) fun k hk=>⟨by have:=hk.1;omega,Nat.lt_of_lt_of_le hk.2 HFZ.out.size⟩
section
structure Nm where
 buf:Bool
 sec:Bool
 mt:Bool
 own:Bool
 set:Bool
 gone:Bool
 lent:Int
 loops:Int
def Nm.zero:Nm:=⟨false,false,false,false,false,false,0,0⟩
abbrev NL:=List (ByteArray×Nm)
def nhas (l:NL) (s:ByteArray):Bool:=l.any fun p=>sq p.1 s
def nget (l:NL) (s:ByteArray):Nm:=((l.find? fun p=>sq p.1 s).map (·.2)).getD Nm.zero
def nset (l:NL) (s:ByteArray) (x:Nm):NL:=l.map fun p=>if sq p.1 s then(p.1,x) else p
def nput (l:NL) (s:ByteArray) (x:Nm):NL:=if nhas l s then nset l s x else l++[(s,x)]
def ndel (l:NL) (s:ByteArray):NL:=l.filter fun p=> !sq p.1 s
def nkeep (l m:NL):NL:=l.filter fun p=>nhas m p.1
def ngone (l m:NL):NL:=l.map fun p=>(p.1,{p.2 with gone:=p.2.gone||(nget m p.1).gone})
structure Ev where
 nm:NL
 n:Int
 loops:Int
def chk (ru r:Int) (is:Bool):Bool:= !(r==ru)||is
def codeOf (ru:Int):Int:=if ru=1 then 8 else if ru=2 then 120 else if ru=3 then 130 else 140
def Nm.numOk (ru:Int) (x:Nm):Bool:=chk ru 1 (!x.buf)
def Nm.bufOk (ru:Int) (x:Nm):Bool:=chk ru 1 x.buf&&(chk ru 3 (decide (x.lent<2))&&chk ru 4 (!x.gone))
def Nm.turnOk (ru:Int) (x:Nm):Bool:=x.bufOk ru&&(chk ru 1 x.mt&&chk ru 3 (x.lent==0))
mutual
def Ex.sv (g:ByteArray→Nm):Ex→Bool
 | .mk k _ nm _ l=>if k.toNat=2∨k.toNat=5 then(g nm).sec else if k.toNat=3 then(Ex.svs g l).getD 0 false||(Ex.svs g l).getD 1 false else false
def Ex.svs (g:ByteArray→Nm):List Ex→List Bool
 |[]=>[]
 |e::l=>Ex.sv g e::Ex.svs g l
end
mutual
def Ex.so (ru:Int) (g:ByteArray→Nm):Ex→Bool
 | .mk k _ nm o l=>if k.toNat=2 then(g nm).numOk ru else if k.toNat=4 then(g nm).bufOk ru
   else if k.toNat=5 then(g nm).bufOk ru&&(Ex.sos ru g l&&chk ru 2 (!(Ex.svs g l).getD 0 false))
   else if k.toNat=3 then Ex.sos ru g l&&chk ru 2 (!((Ex.svs g l).getD 0 false||(Ex.svs g l).getD 1 false)|| !(o.toNat==13||o.toNat==14)) else true
def Ex.sos (ru:Int) (g:ByteArray→Nm):List Ex→Bool
 |[]=>true
 |e::l=>Ex.so ru g e&&Ex.sos ru g l
end
def Ev.g (a:Ev) (s:ByteArray):Nm:=nget a.nm s
def Ev.into (ru:Int) (a:Ev) (e:Ex) (sec:Bool):Bool:=Ex.so ru a.g e&&chk ru 2 (sec|| !Ex.sv a.g e)
def Ev.give (a:Ev) (s:ByteArray) (x:Nm):Ev:=⟨nput a.nm s {x with loops:=a.loops},a.n,a.loops⟩
def Ev.put (a:Ev) (s:ByteArray) (x:Nm):Ev:=⟨nput a.nm s x,a.n,a.loops⟩
def Ev.del (a:Ev) (s:ByteArray):Ev:=⟨ndel a.nm s,a.n,a.loops⟩
def Ev.with (a:Ev) (l:NL):Ev:=⟨l,a.n,a.loops⟩
def Ev.at (a:Ev) (l:Int):Ev:=⟨a.nm,a.n,l⟩
def Ev.next (a:Ev):Ev:=⟨a.nm,a.n+1,a.loops⟩
def Nm.num (sec set:Bool):Nm:=⟨false,sec,false,false,set,false,0,0⟩
def Nm.bufv (sec mt own:Bool):Nm:=⟨true,sec,mt,own,false,false,0,0⟩
abbrev Er:=Except Int
def Ev.if (a:Ev) (ok:Bool) (r:Er Ev):Er Ev:=if ok then r else .error a.n
def calleeM (P:List Fu) (F:Nat) (s:ByteArray):Fu:=((P.take F).reverse.find? fun f=>sq f.name s).getD Fu.zero
def numsOf (f:Fu):List Pa:=f.params.filter fun x=> !x.buf
def bufsOf (f:Fu):List Pa:=f.params.filter fun x=>x.buf
def Ev.exOk (ru:Int) (a:Ev) (nums:List Pa) (ex:List Ex) (j:Nat):Bool:=a.into ru (exAt ex j) (decide (nums.length≤j)||(nums.getD j Pa.zero).sec)
def timesM (args:List ByteArray) (s:ByteArray):Nat:=args.countP fun x=>sq x s
def Ev.bfOk (ru:Int) (a:Ev) (bufs:List Pa) (args:List ByteArray) (j:Nat):Bool:=
 decide (args.length≤j)||(chk ru 1 ((a.g (args.getD j nob)).mt|| !(bufs.getD j Pa.zero).mt)&&(chk ru 2 ((a.g (args.getD j nob)).sec==(bufs.getD j Pa.zero).sec)&&
  chk ru 3 (!(bufs.getD j Pa.zero).mt||((a.g (args.getD j nob)).lent==0&&timesM args (args.getD j nob)==1))))
def Ev.callOk (ru:Int) (f:Fu) (nm:ByteArray) (ex:List Ex) (args:List ByteArray) (a:Ev):Bool:=
 (List.range ex.length).all (a.exOk ru (numsOf f) ex)&&(args.all (fun s=>(a.g s).bufOk ru)&&
   (chk ru 1 (((numsOf f).length==ex.length)&&(((bufsOf f).length==args.length)&&(emp nm||decide (0<f.ret.length))))&&(List.range (bufsOf f).length).all (a.bfOk ru (bufsOf f) args)))
def Ev.sealOk (ru:Int) (P:List Fu) (F:Nat) (a:Ev):Bool:=chk ru 1 (F+1==P.length)&&a.nm.all fun p=>chk ru 2 (p.2.buf|| !p.2.sec)
def Ev.lendOk (ru:Int) (fr:ByteArray) (mt:Bool) (ex:List Ex) (a:Ev):Bool:=a.into ru (exAt ex 0) false&&(a.into ru (exAt ex 1) false&&((a.g fr).bufOk ru&&(!mt||(a.g fr).turnOk ru)))
def Ev.lendIn (nm fr:ByteArray) (mt:Bool) (a:Ev):Ev:=(a.put fr {a.g fr with lent:=if mt then 2 else max (a.g fr).lent 1}).give nm (Nm.bufv (a.g fr).sec mt false)
def Ev.lendOut (nm fr:ByteArray) (l:Int) (a:Ev):Ev:=(a.del nm).put fr {(a.del nm).g fr with lent:=l}
def Ev.moveOk (ru:Int) (fr:ByteArray) (a:Ev):Bool:=(a.g fr).bufOk ru&&(chk ru 1 (a.g fr).own&&(chk ru 3 ((a.g fr).lent==0)&&chk ru 4 ((a.g fr).loops==a.loops)))
def Ev.loopIn (nm:ByteArray) (a:Ev):Ev:=if emp nm then a.at (a.loops+1) else(a.at (a.loops+1)).give nm Nm.zero
def Ev.setOk (ru:Int) (nm:ByteArray) (e:Ex) (a:Ev):Bool:=Ex.so ru a.g e&&((a.g nm).numOk ru&&(chk ru 1 (a.g nm).set&&chk ru 2 ((a.g nm).sec|| !Ex.sv a.g e)))
def Ev.putOk (ru:Int) (nm:ByteArray) (e e1:Ex) (a:Ev):Bool:=a.into ru e false&&(Ex.so ru a.g e1&&((a.g nm).turnOk ru&&chk ru 2 ((a.g nm).sec|| !Ex.sv a.g e1)))
def evKeep (a:Ev) (r:Er Ev):Er Ev:=match r with
 | .error x=>.error x
 | .ok a1=>.ok (a1.with (nkeep a1.nm a.nm))
mutual
def evStmt (ru:Int) (P:List Fu) (F:Nat):St→Ev→Er Ev
 | .mk k nm fr sec mt ex args body els,a=>
   if k.toNat=1 then a.if (a.into ru (exAt ex 0) sec) (.ok (a.give nm (Nm.num sec true)))
   else if k.toNat=2 then a.if (a.setOk ru nm (exAt ex 0)) (.ok a)
   else if k.toNat=3 then a.if (a.into ru (exAt ex 0) false) (.ok (a.give nm (Nm.bufv sec true true)))
   else if k.toNat=4 then a.if (a.putOk ru nm (exAt ex 0) (exAt ex 1)) (.ok a)
   else if k.toNat=5 then a.if (a.into ru (exAt ex 0) false) (match evKeep a (evStmts ru P F body a) with
    | .error x=>.error x
    | .ok a1=>match evKeep (a1.with a.nm) (evStmts ru P F els (a1.with a.nm)) with
      | .error x=>.error x
      | .ok a2=>.ok (a2.with (ngone a2.nm a1.nm)))
   else if k.toNat=6∨k.toNat=7 then a.if (a.into ru (exAt ex 0) false) (match evKeep (a.loopIn nm) (evStmts ru P F body (a.loopIn nm)) with
    | .error x=>.error x
    | .ok a1=>.ok ((a1.at (a1.loops-1)).del nm))
   else if k.toNat=8 then a.if (a.lendOk ru fr mt ex) (match evKeep (a.lendIn nm fr mt) (evStmts ru P F body (a.lendIn nm fr mt)) with
    | .error x=>.error x
    | .ok a1=>.ok (a1.lendOut nm fr (a.g fr).lent))
   else if k.toNat=9 then a.if (a.moveOk ru fr) (.ok ((a.put fr {a.g fr with gone:=true}).give nm (Nm.bufv (a.g fr).sec true true)))
   else if k.toNat=10 then a.if (Ex.so ru a.g (exAt ex 0)) (.ok (a.give nm Nm.zero))
   else if k.toNat=11 then a.if (a.callOk ru (calleeM P F fr) nm ex args) (.ok (if emp nm then a else a.give nm (Nm.num (calleeM P F fr).sec false)))
   else a.if (a.sealOk ru P F) (.ok a)
def evStmts (ru:Int) (P:List Fu) (F:Nat):List St→Ev→Er Ev
 |[],a=>.ok a
 |x::l,a=>match evStmt ru P F x a.next with
  | .error y=>.error y
  | .ok a1=>evStmts ru P F l a1
end
def evBlock (ru:Int) (P:List Fu) (F:Nat) (l:List St) (a:Ev):Er Ev:=evKeep a (evStmts ru P F l a)
def evParam (a:Ev) (x:Pa):Ev:=a.give x.name ⟨x.buf,x.sec,x.mt,false,false,false,0,0⟩
def evParams (l:List Pa) (a:Ev):Ev:=l.foldl evParam a
def evFun (ru:Int) (P:List Fu) (F:Nat) (f:Fu) (n:Int):Er Int:=match evStmts ru P F f.body (evParams f.params ⟨[],n,0⟩) with
 | .error x=>.error x
 | .ok a=>if f.ret.all (fun e=>a.into ru e f.sec) then .ok (a.n+1+1) else .error (a.n+1)
def evWalk (ru:Int) (P:List Fu):Nat→Er Int
 |0=>.ok 0
 |i+1=>match evWalk ru P i with
  | .error x=>.error x
  | .ok n=>evFun ru P i (P.getD i Fu.zero) n
def evCheck (ru:Int) (P:List Fu):Int×Int:=match evWalk ru P P.length with
 | .error n=>(n,codeOf ru)
 | .ok _=>(0,0)
section
variable (ru:Int) (P:List Fu) (F:Nat) (k:UInt8) (nm fr:ByteArray) (sec mt:Bool) (ex:List Ex) (args:List ByteArray) (body els:List St) (a:Ev)
theorem ev_1 (h:k.toNat=1):evStmt ru P F (.mk k nm fr sec mt ex args body els) a=a.if (a.into ru (exAt ex 0) sec) (.ok (a.give nm (Nm.num sec true))):=by
 conv=>lhs;unfold evStmt
 rw[if_pos h]
theorem ev_2 (h:k.toNat=2):evStmt ru P F (.mk k nm fr sec mt ex args body els) a=a.if (a.setOk ru nm (exAt ex 0)) (.ok a):=by
 conv=>lhs;unfold evStmt
 rw[if_neg (by omega),if_pos h]
theorem ev_3 (h:k.toNat=3):evStmt ru P F (.mk k nm fr sec mt ex args body els) a=a.if (a.into ru (exAt ex 0) false) (.ok (a.give nm (Nm.bufv sec true true))):=by
 conv=>lhs;unfold evStmt
 rw[if_neg (by omega),if_neg (by omega),if_pos h]
theorem ev_4 (h:k.toNat=4):evStmt ru P F (.mk k nm fr sec mt ex args body els) a=a.if (a.putOk ru nm (exAt ex 0) (exAt ex 1)) (.ok a):=by
 conv=>lhs;unfold evStmt
 rw[if_neg (by omega),if_neg (by omega),if_neg (by omega),if_pos h]
theorem ev_5 (h:k.toNat=5):evStmt ru P F (.mk k nm fr sec mt ex args body els) a=a.if (a.into ru (exAt ex 0) false) (match evBlock ru P F body a with
  | .error x=>.error x
  | .ok a1=>match evBlock ru P F els (a1.with a.nm) with
    | .error x=>.error x
    | .ok a2=>.ok (a2.with (ngone a2.nm a1.nm))):=by
 conv=>lhs;unfold evStmt
 rw[if_neg (by omega),if_neg (by omega),if_neg (by omega),if_neg (by omega),if_pos h];rfl
theorem ev_67 (h:k.toNat=6∨k.toNat=7):evStmt ru P F (.mk k nm fr sec mt ex args body els) a=a.if (a.into ru (exAt ex 0) false) (match evBlock ru P F body (a.loopIn nm) with
  | .error x=>.error x
  | .ok a1=>.ok ((a1.at (a1.loops-1)).del nm)):=by
 conv=>lhs;unfold evStmt
 rw[if_neg (by omega),if_neg (by omega),if_neg (by omega),if_neg (by omega),if_neg (by omega),if_pos h];rfl
theorem ev_8 (h:k.toNat=8):evStmt ru P F (.mk k nm fr sec mt ex args body els) a=a.if (a.lendOk ru fr mt ex) (match evBlock ru P F body (a.lendIn nm fr mt) with
  | .error x=>.error x
  | .ok a1=>.ok (a1.lendOut nm fr (a.g fr).lent)):=by
 conv=>lhs;unfold evStmt
 rw[if_neg (by omega),if_neg (by omega),if_neg (by omega),if_neg (by omega),if_neg (by omega),if_neg (by omega),if_pos h];rfl
theorem ev_9 (h:k.toNat=9):evStmt ru P F (.mk k nm fr sec mt ex args body els) a=a.if (a.moveOk ru fr) (.ok ((a.put fr {a.g fr with gone:=true}).give nm (Nm.bufv (a.g fr).sec true true))):=by
 conv=>lhs;unfold evStmt
 rw[if_neg (by omega),if_neg (by omega),if_neg (by omega),if_neg (by omega),if_neg (by omega),if_neg (by omega),if_neg (by omega),if_pos h]
theorem ev_10 (h:k.toNat=10):evStmt ru P F (.mk k nm fr sec mt ex args body els) a=a.if (Ex.so ru a.g (exAt ex 0)) (.ok (a.give nm Nm.zero)):=by
 conv=>lhs;unfold evStmt
 rw[if_neg (by omega),if_neg (by omega),if_neg (by omega),if_neg (by omega),if_neg (by omega),if_neg (by omega),if_neg (by omega),if_neg (by omega),if_pos h]
theorem ev_11 (h:k.toNat=11):evStmt ru P F (.mk k nm fr sec mt ex args body els) a=a.if (a.callOk ru (calleeM P F fr) nm ex args) (.ok (if emp nm then a else a.give nm (Nm.num (calleeM P F fr).sec false))):=by
 conv=>lhs;unfold evStmt
 rw[if_neg (by omega),if_neg (by omega),if_neg (by omega),if_neg (by omega),if_neg (by omega),if_neg (by omega),if_neg (by omega),if_neg (by omega),if_neg (by omega),if_pos h]
theorem ev_12 (h:11<k.toNat):evStmt ru P F (.mk k nm fr sec mt ex args body els) a=a.if (a.sealOk ru P F) (.ok a):=by
 conv=>lhs;unfold evStmt
 rw[if_neg (by omega),if_neg (by omega),if_neg (by omega),if_neg (by omega),if_neg (by omega),if_neg (by omega),if_neg (by omega),if_neg (by omega),if_neg (by omega),if_neg (by omega)]
end
theorem nodup_inj {α β:Type} {f:α→β}:∀{l:List α},(l.map f).Nodup→∀{x y:α},x∈l→y∈l→f x=f y→x=y
 |z::l,h,x,y,hx,hy,e=>by
  rw[List.map_cons,List.nodup_cons] at h;rcases List.mem_cons.1 hx with hxz|hxl<;>rcases List.mem_cons.1 hy with hyz|hyl
  ·exact hxz.trans hyz.symm
  ·exact absurd (List.mem_map.2 ⟨y,hyl,by rw[←e,hxz]⟩) h.1
  ·exact absurd (List.mem_map.2 ⟨x,hxl,by rw[e,hyz]⟩) h.1
  ·exact nodup_inj h.2 hxl hyl e
theorem evif_ok {a a1:Ev} {ok:Bool} {r:Er Ev} (h:a.if ok r= .ok a1):ok=true∧r= .ok a1:=by
 unfold Ev.if at h;cases ok with
 |true=>exact⟨rfl,h⟩
 |false=>cases h
theorem evKeep_ok {a a1:Ev} {r:Er Ev} (h:evKeep a r= .ok a1):∃a2,r= .ok a2∧a1=a2.with (nkeep a2.nm a.nm):=by
 cases r with
 |error x=>cases h
 |ok a2=>cases h;exact⟨a2,rfl,rfl⟩
theorem loopIn_n (a:Ev) (nm:ByteArray):(a.loopIn nm).n=a.n∧(a.loopIn nm).loops=a.loops+1:=by unfold Ev.loopIn;split<;>exact⟨rfl,rfl⟩
mutual
theorem evStmt_n (ru:Int) (P:List Fu) (F:Nat):∀(st:St) (a a1:Ev),evStmt ru P F st a= .ok a1→a1.loops=a.loops∧a.n≤a1.n∧a1.n+1≤a.n+st.size
 | .mk k nm fr sec mt ex args body els,a,a1,h=>by
   have hsz:(St.mk k nm fr sec mt ex args body els).size=1+St.sizes body+St.sizes els:=by simp only[St.size]
   rw[hsz];by_cases h1:k.toNat=1
   ·rw[ev_1 _ _ _ _ _ _ _ _ _ _ _ _ _ h1] at h;obtain⟨_,h⟩:=evif_ok h;cases h;exact⟨rfl,Int.le_refl _,by show a.n+1≤_;omega⟩
   by_cases h2:k.toNat=2
   ·rw[ev_2 _ _ _ _ _ _ _ _ _ _ _ _ _ h2] at h;obtain⟨_,h⟩:=evif_ok h;cases h;exact⟨rfl,Int.le_refl _,by omega⟩
   by_cases h3:k.toNat=3
   ·rw[ev_3 _ _ _ _ _ _ _ _ _ _ _ _ _ h3] at h;obtain⟨_,h⟩:=evif_ok h;cases h;exact⟨rfl,Int.le_refl _,by show a.n+1≤_;omega⟩
   by_cases h4:k.toNat=4
   ·rw[ev_4 _ _ _ _ _ _ _ _ _ _ _ _ _ h4] at h;obtain⟨_,h⟩:=evif_ok h;cases h;exact⟨rfl,Int.le_refl _,by omega⟩
   by_cases h5:k.toNat=5
   ·rw[ev_5 _ _ _ _ _ _ _ _ _ _ _ _ _ h5] at h;obtain⟨_,h⟩:=evif_ok h;split at h
    ·cases h
    ·rename_i a2 hb;split at h
     ·cases h
     ·rename_i a3 he;cases h;obtain⟨b2,hb2,rfl⟩:=evKeep_ok hb;obtain⟨b3,hb3,rfl⟩:=evKeep_ok he;have g2:=evStmts_n ru P F body a b2 hb2;have g3:=evStmts_n ru P F els _ b3 hb3;simp only[Ev.with] at g2 g3 ⊢;omega
   by_cases h67:k.toNat=6∨k.toNat=7
   ·rw[ev_67 _ _ _ _ _ _ _ _ _ _ _ _ _ h67] at h;obtain⟨_,h⟩:=evif_ok h;split at h
    ·cases h
    ·rename_i a2 hb;cases h;obtain⟨b2,hb2,rfl⟩:=evKeep_ok hb;have g2:=evStmts_n ru P F body _ b2 hb2;rw[(loopIn_n a nm).1,(loopIn_n a nm).2] at g2;simp only[Ev.with,Ev.del,Ev.at] at g2 ⊢;omega
   by_cases h8:k.toNat=8
   ·rw[ev_8 _ _ _ _ _ _ _ _ _ _ _ _ _ h8] at h;obtain⟨_,h⟩:=evif_ok h;split at h
    ·cases h
    ·rename_i a2 hb;cases h;obtain⟨b2,hb2,rfl⟩:=evKeep_ok hb;have g2:=evStmts_n ru P F body _ b2 hb2;simp only[Ev.with,Ev.del,Ev.put,Ev.lendOut,Ev.lendIn,Ev.give] at g2 ⊢;omega
   by_cases h9:k.toNat=9
   ·rw[ev_9 _ _ _ _ _ _ _ _ _ _ _ _ _ h9] at h;obtain⟨_,h⟩:=evif_ok h;cases h;exact⟨rfl,Int.le_refl _,by show a.n+1≤_;omega⟩
   by_cases h10:k.toNat=10
   ·rw[ev_10 _ _ _ _ _ _ _ _ _ _ _ _ _ h10] at h;obtain⟨_,h⟩:=evif_ok h;cases h;exact⟨rfl,Int.le_refl _,by show a.n+1≤_;omega⟩
   by_cases h11:k.toNat=11
   ·rw[ev_11 _ _ _ _ _ _ _ _ _ _ _ _ _ h11] at h;obtain⟨_,h⟩:=evif_ok h;cases h;split
    ·exact⟨rfl,Int.le_refl _,by omega⟩
    ·exact⟨rfl,Int.le_refl _,by show a.n+1≤_;omega⟩
   by_cases h12:11<k.toNat
   ·rw[ev_12 _ _ _ _ _ _ _ _ _ _ _ _ _ h12] at h;obtain⟨_,h⟩:=evif_ok h;cases h;exact⟨rfl,Int.le_refl _,by omega⟩
   ·have h0:k.toNat=0:=by omega
    unfold evStmt at h;rw[if_neg h1,if_neg h2,if_neg h3,if_neg h4,if_neg h5,if_neg h67,if_neg h8,if_neg h9,if_neg h10,if_neg h11] at h;obtain⟨_,h⟩:=evif_ok h;cases h;exact⟨rfl,Int.le_refl _,by omega⟩
theorem evStmts_n (ru:Int) (P:List Fu) (F:Nat):∀(l:List St) (a a1:Ev),evStmts ru P F l a= .ok a1→a1.loops=a.loops∧a.n≤a1.n∧a1.n≤a.n+St.sizes l
 |[],a,a1,h=>by cases h;exact⟨rfl,Int.le_refl _,by simp[St.sizes]⟩
 |x::l,a,a1,h=>by
  unfold evStmts at h;cases h2:evStmt ru P F x a.next with
  |error y=>rw[h2] at h;cases h
  |ok a2=>
   rw[h2] at h;have g2:=evStmt_n ru P F x _ a2 h2;have g1:=evStmts_n ru P F l a2 a1 h;have h0:a.next.n=a.n+1∧a.next.loops=a.loops:=⟨rfl,rfl⟩;simp only[St.sizes];omega
end
theorem evParams_n:∀(l:List Pa) (a:Ev),(evParams l a).loops=a.loops∧(evParams l a).n=a.n
 |[],a=>⟨rfl,rfl⟩
 |x::l,a=>evParams_n l (evParam a x)
theorem evStmts_snoc (ru:Int) (P:List Fu) (F:Nat) (x:St):∀(l:List St) (a:Ev),evStmts ru P F (l++[x]) a=match evStmts ru P F l a with
  | .error y=>.error y
  | .ok a1=>evStmt ru P F x a1.next
 |[],a=>by
  simp only[List.nil_append,evStmts];cases evStmt ru P F x a.next<;>rfl
 |y::l,a=>by
  simp only[List.cons_append,evStmts];cases evStmt ru P F y a.next with
  |error z=>rfl
  |ok a1=>exact evStmts_snoc ru P F x l a1
theorem evStmts_err (ru:Int) (P:List Fu) (F:Nat) (r:List St) (n:Int):∀(l:List St) (a:Ev),evStmts ru P F l a= .error n→evStmts ru P F (l++r) a= .error n
 |[],a,h=>by cases h
 |y::l,a,h=>by
  simp only[List.cons_append,evStmts] at h ⊢;cases h2:evStmt ru P F y a.next with
  |error z=>rw[h2] at h;exact h
  |ok a1=>rw[h2] at h;exact evStmts_err ru P F r n l a1 h
end
section
abbrev Nm.v (x:Nm):Value:=.agg #[.bool x.buf,.bool x.sec,.bool x.mt,.bool x.own,.bool x.set,.bool x.gone,.int .i64 x.lent,.int .i64 x.loops]
def nvs (l:NL):List (ByteArray×Value):=l.map fun p=>(p.1,p.2.v)
theorem mhas_nvs (l:NL) (s:ByteArray):mhas (nvs l) s=nhas l s:=by simp[mhas,nvs,nhas,List.any_map,Function.comp_def]
theorem mget_nvs (l:NL) (s:ByteArray):mget (nvs l) s Nm.zero.v=(nget l s).v:=by
 rw[mget,nget,nvs,List.find?_map];show((Option.map _ (l.find? fun p=>sq p.1 s)).map _).getD _=_
 cases l.find? fun p=>sq p.1 s<;>rfl
theorem mput_nvs (l:NL) (s:ByteArray) (x:Nm):mput (nvs l) s x.v=nvs (nput l s x):=by
 rw[mput,nput,mhas_nvs];split
 ·rw[mset,nset,nvs,nvs,List.map_map,List.map_map];apply List.map_congr_left;intro p _;simp only[Function.comp];split<;>rfl
 ·simp[nvs]
theorem mdel_nvs (l:NL) (s:ByteArray):mdel (nvs l) s=nvs (ndel l s):=by
 simp[mdel,nvs,ndel,List.filter_map,Function.comp_def]
theorem undNm:Tryz.prog.underlying 76=some (.map 9 81):=by kernel_rfl
theorem zeroNm (w:World):(zeroValue 81).run Tryz.prog w= .ok Nm.zero.v w:=by kernel_rfl
structure EvAt (base b:Nat) (PV:Value) (ru:Int) (F:Nat) (w:World) (a:Ev) (bk:Nat):Prop where
 blk:w.heap[b]? =some (.cells #[PV,.int .u8 ru,.int .i64 F,.int .i64 a.n,.int .i64 a.loops,.map (some bk)] 78 (0,0))
 nm:MapS w bk (nvs a.nm)
 hb:base≤b
 hk:base≤bk
def ES (b bk:Nat) (k:Nat):Prop:=k=b∨k=bk
section
variable {base b:Nat} {PV:Value} {ru:Int} {F:Nat} {w w':World} {a:Ev} {bk:Nat}
theorem EvAt.fr {S:Nat→Prop} (h:EvAt base b PV ru F w a bk) (hf:Fr S w w') (hs:∀k,ES b bk k→¬S k):EvAt base b PV ru F w' a bk:=
 ⟨Zb h.blk hf (hs _ (.inl rfl)),h.nm.fr hf (hs _ (.inr rfl)),h.hb,h.hk⟩
theorem EvAt.stay (h:EvAt base b PV ru F w a bk) (hf:Fr Non w w'):EvAt base b PV ru F w' a bk:=h.fr hf fun _ _=>non _
theorem EvAt.ne (h:EvAt base b PV ru F w a bk):bk≠b:=by
 have h1:=h.blk;rintro rfl;obtain⟨es,cl,hb,_⟩:=h.nm;rw[h1] at hb;cases hb
theorem EvAt.lt (h:EvAt base b PV ru F w a bk):∀k,ES b bk k→base≤k∧k<w.heap.size:=fun k hk=>by
 rcases hk with rfl|rfl
 ·exact⟨h.hb,blk_lt h.blk⟩
 ·exact⟨h.hk,h.nm.lt⟩
theorem EvAt.look (h:EvAt base b PV ru F w a bk) (nm:ByteArray):(Instr.lookup 76 (.map (some bk)) (.string nm) false).run Tryz.prog w= .ok (a.g nm).v w:=by
 have:=(h.nm.look undNm undStr zeroNm nm).2;rw[mget_nvs] at this;exact this
end
def UnR (n ru:Int) (ok:Bool) (e:Ending):Prop:=e=if ok then .returned (.tuple #[]) else .panicked [{v:=faultV n (codeOf ru),recovered:=false}]
theorem UnR.t {n ru:Int} {e:Ending} (h:UnR n ru true e):e= .returned (.tuple #[]):=h
theorem UnR.f {n ru:Int} {e:Ending} (h:UnR n ru false e):e= .panicked [{v:=faultV n (codeOf ru),recovered:=false}]:=h
theorem unR_t {n ru:Int} {b:Bool} (h:b=true):UnR n ru b (.returned (.tuple #[])):=by subst h;rfl
theorem unR_f {n ru:Int} {b:Bool} (h:b=false):UnR n ru b (.panicked [{v:=faultV n (codeOf ru),recovered:=false}]):=by subst h;rfl
def VaR (n ru:Int) (ok:Bool) (v:Value) (e:Ending):Prop:=e=if ok then .returned v else .panicked [{v:=faultV n (codeOf ru),recovered:=false}]
theorem VaR.t {n ru:Int} {v:Value} {e:Ending} (h:VaR n ru true v e):e= .returned v:=h
theorem VaR.f {n ru:Int} {v:Value} {e:Ending} (h:VaR n ru false v e):e= .panicked [{v:=faultV n (codeOf ru),recovered:=false}]:=h
theorem vaR_t {n ru:Int} {b:Bool} {v:Value} (h:b=true):VaR n ru b v (.returned v):=by subst h;rfl
theorem vaR_f {n ru:Int} {b:Bool} {v:Value} (h:b=false):VaR n ru b v (.panicked [{v:=faultV n (codeOf ru),recovered:=false}]):=by subst h;rfl
theorem eunl_any (b:Nat) (w:World) (n ru r:Int) (is:Bool) (er:Int) (h1:w.cell? ⟨b,1,none⟩=some (.int .u8 ru)) (h3:w.cell? ⟨b,3,none⟩=some (.int .i64 n)) (he:er=codeOf r):
  Calls Tryz.prog 119 #[.pointer (some ⟨b,0,none⟩),.int .u8 r,.bool is,.int .i64 er] w fun e w'=>UnR n ru (chk ru r is) e∧w=w':=by
 have HE:=Zh he;clear he;by_cases h:r=ru
 ·subst h;have HC:=Zh (show chk r r is=is by simp[chk]);have h':(r==r)=true:=by simp
  cases is with
  |true=>
   go_enter Tryz.func119,Tryz.ntmps119;go_wp2_with fail
   go_end0
   exact⟨unR_t HC.out,rfl⟩
  |false=>
   go_enter Tryz.func119,Tryz.ntmps119;go_wp2_with fail;refine⟨rfl,?_,rfl⟩;rw[HE.out];exact unR_f HC.out
 ·have HC:=Zh (show chk ru r is=true by rw[chk,show(r==ru)=false by simp[h]];rfl);have h':(r==ru)=false:=by simp[h]
  clear h;go_enter Tryz.func119,Tryz.ntmps119;go_wp2_with fail
  go_end0
  exact⟨unR_t HC.out,rfl⟩
theorem ekind_any (base b:Nat) (PV:Value) (ru:Int) (F:Nat) (w:World) (a:Ev) (bk:Nat) (is:Bool) (h:EvAt base b PV ru F w a bk):
  Calls Tryz.prog 111 #[.pointer (some ⟨b,0,none⟩),.bool is] w fun e w'=>UnR a.n ru (chk ru 1 is) e∧w=w':=by
 have b1:=(Zc h.blk).1 1 _ rfl;have b3:=(Zc h.blk).1 3 _ rfl;have H:=Zh (eunl_any b w a.n ru 1 is 8 b1 b3 rfl);clear h b1 b3;go_enter Tryz.func111,Tryz.ntmps111;go_wp2_with fail;refine H.out.mono ?_;rintro e w' ⟨he,rfl⟩;cases hc:chk ru 1 is with
 |true=>
  rw[hc] at he;obtain rfl:=he.t;clear he;have HC:=Zh hc;clear hc;go_wp2_with fail
  go_end0
  exact⟨unR_t HC.out,rfl⟩
 |false=>
  rw[hc] at he;obtain rfl:=he.f;clear he;have HC:=Zh hc;clear hc;go_wp2_with fail;exact⟨rfl,unR_f HC.out,rfl⟩
theorem eclear_any (base b:Nat) (PV:Value) (ru:Int) (F:Nat) (w:World) (a:Ev) (bk:Nat) (is:Bool) (h:EvAt base b PV ru F w a bk):
  Calls Tryz.prog 85 #[.pointer (some ⟨b,0,none⟩),.bool is] w fun e w'=>UnR a.n ru (chk ru 2 is) e∧w=w':=by
 have b1:=(Zc h.blk).1 1 _ rfl;have b3:=(Zc h.blk).1 3 _ rfl;have H:=Zh (eunl_any b w a.n ru 2 is 120 b1 b3 rfl);clear h b1 b3;go_enter Tryz.func85,Tryz.ntmps85;go_wp2_with fail;refine H.out.mono ?_;rintro e w' ⟨he,rfl⟩;cases hc:chk ru 2 is with
 |true=>
  rw[hc] at he;obtain rfl:=he.t;clear he;have HC:=Zh hc;clear hc;go_wp2_with fail
  go_end0
  exact⟨unR_t HC.out,rfl⟩
 |false=>
  rw[hc] at he;obtain rfl:=he.f;clear he;have HC:=Zh hc;clear hc;go_wp2_with fail;exact⟨rfl,unR_f HC.out,rfl⟩
theorem efree_any (base b:Nat) (PV:Value) (ru:Int) (F:Nat) (w:World) (a:Ev) (bk:Nat) (is:Bool) (h:EvAt base b PV ru F w a bk):
  Calls Tryz.prog 116 #[.pointer (some ⟨b,0,none⟩),.bool is] w fun e w'=>UnR a.n ru (chk ru 3 is) e∧w=w':=by
 have b1:=(Zc h.blk).1 1 _ rfl;have b3:=(Zc h.blk).1 3 _ rfl;have H:=Zh (eunl_any b w a.n ru 3 is 130 b1 b3 rfl);clear h b1 b3;go_enter Tryz.func116,Tryz.ntmps116;go_wp2_with fail;refine H.out.mono ?_;rintro e w' ⟨he,rfl⟩;cases hc:chk ru 3 is with
 |true=>
  rw[hc] at he;obtain rfl:=he.t;clear he;have HC:=Zh hc;clear hc;go_wp2_with fail
  go_end0
  exact⟨unR_t HC.out,rfl⟩
 |false=>
  rw[hc] at he;obtain rfl:=he.f;clear he;have HC:=Zh hc;clear hc;go_wp2_with fail;exact⟨rfl,unR_f HC.out,rfl⟩
theorem ethere_any (base b:Nat) (PV:Value) (ru:Int) (F:Nat) (w:World) (a:Ev) (bk:Nat) (is:Bool) (h:EvAt base b PV ru F w a bk):
  Calls Tryz.prog 117 #[.pointer (some ⟨b,0,none⟩),.bool is] w fun e w'=>UnR a.n ru (chk ru 4 is) e∧w=w':=by
 have b1:=(Zc h.blk).1 1 _ rfl;have b3:=(Zc h.blk).1 3 _ rfl;have H:=Zh (eunl_any b w a.n ru 4 is 140 b1 b3 rfl);clear h b1 b3;go_enter Tryz.func117,Tryz.ntmps117;go_wp2_with fail;refine H.out.mono ?_;rintro e w' ⟨he,rfl⟩;cases hc:chk ru 4 is with
 |true=>
  rw[hc] at he;obtain rfl:=he.t;clear he;have HC:=Zh hc;clear hc;go_wp2_with fail
  go_end0
  exact⟨unR_t HC.out,rfl⟩
 |false=>
  rw[hc] at he;obtain rfl:=he.f;clear he;have HC:=Zh hc;clear hc;go_wp2_with fail;exact⟨rfl,unR_f HC.out,rfl⟩
theorem blk_put8 {w:World} {g:Nat} {a0 a1 a2 a3 a4 a5 a6 a7:Value} {T:TypeId} (h:w.heap[g]? =some (.cells #[a0,a1,a2,a3,a4,a5,a6,a7] T (0,0))) (v0 v1 v2 v3 v4 v5 v6 v7:Value):
  ((((((((w.setCell ⟨g,0,none⟩ v0).setCell ⟨g,1,none⟩ v1).setCell ⟨g,2,none⟩ v2).setCell ⟨g,3,none⟩ v3).setCell ⟨g,4,none⟩ v4).setCell ⟨g,5,none⟩ v5).setCell ⟨g,6,none⟩ v6).setCell ⟨g,7,none⟩ v7).heap[g]? =some (.cells #[v0,v1,v2,v3,v4,v5,v6,v7] T (0,0)):=by
 have h0:(w.setCell ⟨g,0,none⟩ v0).heap[g]? =some (.cells #[v0,a1,a2,a3,a4,a5,a6,a7] T (0,0)):=blk_set h 0 v0;have h1:((w.setCell ⟨g,0,none⟩ v0).setCell ⟨g,1,none⟩ v1).heap[g]? =some (.cells #[v0,v1,a2,a3,a4,a5,a6,a7] T (0,0)):=blk_set h0 1 v1;have h2:(((w.setCell ⟨g,0,none⟩ v0).setCell ⟨g,1,none⟩ v1).setCell ⟨g,2,none⟩ v2).heap[g]? =some (.cells #[v0,v1,v2,a3,a4,a5,a6,a7] T (0,0)):=blk_set h1 2 v2;have h3:((((w.setCell ⟨g,0,none⟩ v0).setCell ⟨g,1,none⟩ v1).setCell ⟨g,2,none⟩ v2).setCell ⟨g,3,none⟩ v3).heap[g]? =some (.cells #[v0,v1,v2,v3,a4,a5,a6,a7] T (0,0)):=blk_set h2 3 v3;have h4:(((((w.setCell ⟨g,0,none⟩ v0).setCell ⟨g,1,none⟩ v1).setCell ⟨g,2,none⟩ v2).setCell ⟨g,3,none⟩ v3).setCell ⟨g,4,none⟩ v4).heap[g]? =some (.cells #[v0,v1,v2,v3,v4,a5,a6,a7] T (0,0)):=blk_set h3 4 v4;have h5:((((((w.setCell ⟨g,0,none⟩ v0).setCell ⟨g,1,none⟩ v1).setCell ⟨g,2,none⟩ v2).setCell ⟨g,3,none⟩ v3).setCell ⟨g,4,none⟩ v4).setCell ⟨g,5,none⟩ v5).heap[g]? =some (.cells #[v0,v1,v2,v3,v4,v5,a6,a7] T (0,0)):=blk_set h4 5 v5;have h6:(((((((w.setCell ⟨g,0,none⟩ v0).setCell ⟨g,1,none⟩ v1).setCell ⟨g,2,none⟩ v2).setCell ⟨g,3,none⟩ v3).setCell ⟨g,4,none⟩ v4).setCell ⟨g,5,none⟩ v5).setCell ⟨g,6,none⟩ v6).heap[g]? =some (.cells #[v0,v1,v2,v3,v4,v5,v6,a7] T (0,0)):=blk_set h5 6 v6;exact blk_set h6 7 v7
theorem fr_put8 {g:Nat} {w:World} {S:Nat→Prop} (hs:S g) (v0 v1 v2 v3 v4 v5 v6 v7:Value):
  Fr S w ((((((((w.setCell ⟨g,0,none⟩ v0).setCell ⟨g,1,none⟩ v1).setCell ⟨g,2,none⟩ v2).setCell ⟨g,3,none⟩ v3).setCell ⟨g,4,none⟩ v4).setCell ⟨g,5,none⟩ v5).setCell ⟨g,6,none⟩ v6).setCell ⟨g,7,none⟩ v7):=
 ((((((((Fr.refl S w).setCell _ _ (.inl hs)).setCell _ _ (.inl hs)).setCell _ _ (.inl hs)).setCell _ _ (.inl hs)).setCell _ _ (.inl hs)).setCell _ _ (.inl hs)).setCell _ _ (.inl hs)).setCell _ _ (.inl hs)
end
theorem egive_any (base b:Nat) (PV:Value) (ru:Int) (F:Nat) (w:World) (a:Ev) (bk:Nat) (nm:ByteArray) (x:Nm) (h:EvAt base b PV ru F w a bk):
  Calls Tryz.prog 49 #[.pointer (some ⟨b,0,none⟩),.string nm,x.v] w fun e w'=>e= .returned (.tuple #[])∧Fr (fun k=>k=bk) w w'∧EvAt base b PV ru F w' (a.give nm x) bk:=by
 obtain⟨W1,HW1⟩:∃W1,W1=w.alloc (.cells #[.bool x.buf,.bool x.sec,.bool x.mt,.bool x.own,.bool x.set,.bool x.gone,.int .i64 x.lent,.int .i64 x.loops] 81):=⟨_,rfl⟩;have hf1:Fr Non w W1:=by rw[HW1];exact(Zf w).alloc _
 have hb1:W1.heap[w.heap.size]? =some (.cells #[.bool x.buf,.bool x.sec,.bool x.mt,.bool x.own,.bool x.set,.bool x.gone,.int .i64 x.lent,.int .i64 x.loops] 81 (0,0)):=by rw[HW1];exact blk_new _ _ _
 have h1:=h.stay hf1;have b4:=(Zc h1.blk).1 4 _ rfl;have xf:=(Zc hb1).2;have x7:=(Zc hb1).1 7 _ rfl;have hb2:=blk_set hb1 7 (.int .i64 a.loops);have hf2:Fr (fun k=>k=w.heap.size) W1 (W1.setCell ⟨w.heap.size,7,none⟩ (.int .i64 a.loops)):=(Fr.refl _ W1).setCell _ _ (.inl rfl);have hl:=h.lt;have h2:=h1.fr hf2 (fun k hk e=>by have:=(hl k hk).2;have e:k=w.heap.size:=e;omega);have HF2:=Zh (show Fr Non w (W1.setCell ⟨w.heap.size,7,none⟩ (.int .i64 a.loops)) from hf1.setCell _ _ (.inr (Nat.le_refl _)));have H:=Zh h;clear h;have H1:=Zh h1;clear h1;have HB2:=Zh hb2;clear hb2;have H2:=Zh h2;clear h2;clear hf1 hf2;go_enter Tryz.func49,Tryz.ntmps49;go_upto_region 1 with fail;rw[←HW1];clear HW1;go_upto_region 2 with fail;generalize W1.setCell ⟨w.heap.size,7,none⟩ (.int .i64 a.loops)=W2 at*;clear b4 xf x7 hb1;have b5:=(Zc H2.out.blk).1 5 _ rfl;have x0:=(Zc HB2.out).1 0 _ rfl;have x1:=(Zc HB2.out).1 1 _ rfl;have x2:=(Zc HB2.out).1 2 _ rfl;have x3:=(Zc HB2.out).1 3 _ rfl;have x4:=(Zc HB2.out).1 4 _ rfl;have x5:=(Zc HB2.out).1 5 _ rfl;have x6:=(Zc HB2.out).1 6 _ rfl;have x7:=(Zc HB2.out).1 7 _ rfl;have hd:=H2.out.stay (Zf W2).drew;obtain⟨w3,hr,hm,hf3⟩:=hd.nm.put undNm undStr nm ({x with loops:=a.loops}:Nm).v;rw[mput_nvs] at hm;have h3:EvAt base b PV ru F w3 (a.give nm x) bk:=⟨Zb hd.blk hf3 (fun e=>hd.ne e.symm),hm,hd.hb,hd.hk⟩;have H3:=Zh h3;clear h3;have HF3:=Zh (((HF2.out.trans (Zf W2).drew).non).trans hf3);clear hm hf3 hd
 go_still_tail 6,(by kernel_rfl)
 change wpList _ _ _ _ _ W2.drew
 go_wp2_with fail
 go_end0
 exact⟨rfl,HF3.out,H3.out⟩
theorem enum_any (base b:Nat) (PV:Value) (ru:Int) (F:Nat) (w:World) (a:Ev) (bk:Nat) (nm:ByteArray) (h:EvAt base b PV ru F w a bk):
  Calls Tryz.prog 110 #[.pointer (some ⟨b,0,none⟩),.string nm] w fun e w'=>VaR a.n ru ((a.g nm).numOk ru) (a.g nm).v e∧Fr Non w w':=by
 obtain⟨W1,HW1⟩:∃W1,W1=w.alloc (.cells #[.bool false,.bool false,.bool false,.bool false,.bool false,.bool false,.int .i64 0,.int .i64 0] 81):=⟨_,rfl⟩;have hf1:Fr Non w W1:=by rw[HW1];exact(Zf w).alloc _
 have hb1:W1.heap[w.heap.size]? =some (.cells #[.bool false,.bool false,.bool false,.bool false,.bool false,.bool false,.int .i64 0,.int .i64 0] 81 (0,0)):=by rw[HW1];exact blk_new _ _ _
 have h1:=h.stay hf1;have hl:=h1.look nm;obtain⟨x,hx⟩:∃x,a.g nm=x:=⟨_,rfl⟩;rw[hx] at hl ⊢;clear hx;obtain⟨W2,HW2⟩:∃W2,W2=W1.alloc (.cells #[.bool x.buf,.bool x.sec,.bool x.mt,.bool x.own,.bool x.set,.bool x.gone,.int .i64 x.lent,.int .i64 x.loops] 81):=⟨_,rfl⟩;have hf2:Fr Non W1 W2:=by rw[HW2];exact(Zf _).alloc _
 have hb2:W2.heap[W1.heap.size]? =some (.cells #[.bool x.buf,.bool x.sec,.bool x.mt,.bool x.own,.bool x.set,.bool x.gone,.int .i64 x.lent,.int .i64 x.loops] 81 (0,0)):=by rw[HW2];exact blk_new _ _ _
 have b5:=(Zc h1.blk).1 5 _ rfl;have H2:=Zh (h1.stay hf2);have HR:=Zh (Zb hb1 hf2 (non _));have HF:=Zh (hf1.trans hf2);have HB2:=Zh hb2;clear hb2 hf1 hf2 hb1 h1 h;have HK:=Zh (ekind_any base b PV ru F W2 a bk (!x.buf) H2.out);go_enter Tryz.func110,Tryz.ntmps110;go_upto_region 1 with fail;rw[←HW1];clear HW1;go_upto_region 2 with fail;rw[←HW2];clear HW2 hl b5;have x0:=(Zc HB2.out).1 0 _ rfl;go_wp2_with fail;refine HK.out.mono ?_;rintro e w3 ⟨he,rfl⟩;cases hk:chk ru 1 (!x.buf) with
 |false=>
  rw[hk] at he;obtain rfl:=he.f;clear he;have HC:=Zh hk;clear hk;go_wp2_with fail;exact⟨rfl,vaR_f HC.out,HF.out⟩
 |true=>
  rw[hk] at he;obtain rfl:=he.t;clear he;have HC:=Zh hk;clear hk x0;have x0:=(Zc HB2.out).1 0 _ rfl;have x1:=(Zc HB2.out).1 1 _ rfl;have x2:=(Zc HB2.out).1 2 _ rfl;have x3:=(Zc HB2.out).1 3 _ rfl;have x4:=(Zc HB2.out).1 4 _ rfl;have x5:=(Zc HB2.out).1 5 _ rfl;have x6:=(Zc HB2.out).1 6 _ rfl;have x7:=(Zc HB2.out).1 7 _ rfl;have f0:=(Zc HR.out).1 0 _ rfl;have f1:=(Zc HR.out).1 1 _ rfl;have f2:=(Zc HR.out).1 2 _ rfl;have f3:=(Zc HR.out).1 3 _ rfl;have f4:=(Zc HR.out).1 4 _ rfl;have f5:=(Zc HR.out).1 5 _ rfl;have f6:=(Zc HR.out).1 6 _ rfl;have f7:=(Zc HR.out).1 7 _ rfl;have ff:=(Zc HR.out).2;go_wp2_with fail;have HZ:=Zh (blk_put8 HR.out (.bool x.buf) (.bool x.sec) (.bool x.mt) (.bool x.own) (.bool x.set) (.bool x.gone) (.int .i64 x.lent) (.int .i64 x.loops));have HFZ:=Zh (fr_put8 (g:=w.heap.size) (w:=W2) (S:=fun q=>q=w.heap.size) rfl (.bool x.buf) (.bool x.sec) (.bool x.mt) (.bool x.own) (.bool x.set) (.bool x.gone) (.int .i64 x.lent) (.int .i64 x.loops));generalize ((((((((W2.setCell ⟨w.heap.size,0,none⟩ (.bool x.buf)).setCell ⟨w.heap.size,1,none⟩ (.bool x.sec)).setCell ⟨w.heap.size,2,none⟩ (.bool x.mt)).setCell ⟨w.heap.size,3,none⟩ (.bool x.own)).setCell ⟨w.heap.size,4,none⟩ (.bool x.set)).setCell ⟨w.heap.size,5,none⟩ (.bool x.gone)).setCell ⟨w.heap.size,6,none⟩ (.int .i64 x.lent)).setCell ⟨w.heap.size,7,none⟩ (.int .i64 x.loops))=wz at*;clear f0 f1 f2 f3 f4 f5 f6 f7 ff;have f0:=(Zc HZ.out).1 0 _ rfl;have f1:=(Zc HZ.out).1 1 _ rfl;have f2:=(Zc HZ.out).1 2 _ rfl;have f3:=(Zc HZ.out).1 3 _ rfl;have f4:=(Zc HZ.out).1 4 _ rfl;have f5:=(Zc HZ.out).1 5 _ rfl;have f6:=(Zc HZ.out).1 6 _ rfl;have f7:=(Zc HZ.out).1 7 _ rfl;refine bodyPost_ret (v:=x.v) (by simp[results,Tryz.results110,go_sem,f0,f1,f2,f3,f4,f5,f6,f7]) rfl ⟨vaR_t HC.out,HF.out.then HFZ.out (fun k hk e=>by have e:k=w.heap.size:=e;omega)⟩
theorem ebuf_any (base b:Nat) (PV:Value) (ru:Int) (F:Nat) (w:World) (a:Ev) (bk:Nat) (nm:ByteArray) (h:EvAt base b PV ru F w a bk):
  Calls Tryz.prog 115 #[.pointer (some ⟨b,0,none⟩),.string nm] w fun e w'=>VaR a.n ru ((a.g nm).bufOk ru) (a.g nm).v e∧Fr Non w w':=by
 obtain⟨W1,HW1⟩:∃W1,W1=w.alloc (.cells #[.bool false,.bool false,.bool false,.bool false,.bool false,.bool false,.int .i64 0,.int .i64 0] 81):=⟨_,rfl⟩;have hf1:Fr Non w W1:=by rw[HW1];exact(Zf w).alloc _
 have hb1:W1.heap[w.heap.size]? =some (.cells #[.bool false,.bool false,.bool false,.bool false,.bool false,.bool false,.int .i64 0,.int .i64 0] 81 (0,0)):=by rw[HW1];exact blk_new _ _ _
 have h1:=h.stay hf1;have hl:=h1.look nm;obtain⟨x,hx⟩:∃x,a.g nm=x:=⟨_,rfl⟩;rw[hx] at hl ⊢;clear hx;obtain⟨W2,HW2⟩:∃W2,W2=W1.alloc (.cells #[.bool x.buf,.bool x.sec,.bool x.mt,.bool x.own,.bool x.set,.bool x.gone,.int .i64 x.lent,.int .i64 x.loops] 81):=⟨_,rfl⟩;have hf2:Fr Non W1 W2:=by rw[HW2];exact(Zf _).alloc _
 have hb2:W2.heap[W1.heap.size]? =some (.cells #[.bool x.buf,.bool x.sec,.bool x.mt,.bool x.own,.bool x.set,.bool x.gone,.int .i64 x.lent,.int .i64 x.loops] 81 (0,0)):=by rw[HW2];exact blk_new _ _ _
 have b5:=(Zc h1.blk).1 5 _ rfl;have H2:=Zh (h1.stay hf2);have HR:=Zh (Zb hb1 hf2 (non _));have HF:=Zh (hf1.trans hf2);have HB2:=Zh hb2;clear hb2 hf1 hf2 hb1 h1 h;go_enter Tryz.func115,Tryz.ntmps115;go_upto_region 1 with fail;rw[←HW1];clear HW1;go_upto_region 2 with fail;rw[←HW2];clear HW2 hl b5;have x0:=(Zc HB2.out).1 0 _ rfl;go_wp2_with fail;refine(ekind_any base b PV ru F W2 a bk x.buf H2.out).mono ?_;rintro e w3 ⟨he,rfl⟩;cases hk:chk ru 1 x.buf with
 |false=>
  rw[hk] at he;obtain rfl:=he.f;clear he;have HC3:=Zh hk;clear hk;go_wp2_with fail;exact⟨rfl,vaR_f (by rw[Nm.bufOk,HC3.out];rfl),HF.out⟩
 |true=>
  rw[hk] at he;obtain rfl:=he.t;clear he;have HC3:=Zh hk;clear hk;clear x0;have x6:=(Zc HB2.out).1 6 _ rfl;go_wp2_with fail;refine(efree_any base b PV ru F W2 a bk (decide (x.lent<2)) H2.out).mono ?_;rintro e w4 ⟨he,rfl⟩;cases hk:chk ru 3 (decide (x.lent<2)) with
  |false=>
   rw[hk] at he;obtain rfl:=he.f;clear he;have HC4:=Zh hk;clear hk;go_wp2_with fail;exact⟨rfl,vaR_f (by rw[Nm.bufOk,HC3.out,HC4.out];rfl),HF.out⟩
  |true=>
   rw[hk] at he;obtain rfl:=he.t;clear he;have HC4:=Zh hk;clear hk;clear x6;have x5:=(Zc HB2.out).1 5 _ rfl;go_wp2_with fail;refine(ethere_any base b PV ru F W2 a bk (!x.gone) H2.out).mono ?_;rintro e w5 ⟨he,rfl⟩;cases hk:chk ru 4 (!x.gone) with
   |false=>
    rw[hk] at he;obtain rfl:=he.f;clear he;have HC5:=Zh hk;clear hk;go_wp2_with fail;exact⟨rfl,vaR_f (by rw[Nm.bufOk,HC3.out,HC4.out,HC5.out];rfl),HF.out⟩
   |true=>
    rw[hk] at he;obtain rfl:=he.t;clear he;have HC5:=Zh hk;clear hk;clear x5;have x0:=(Zc HB2.out).1 0 _ rfl;have x1:=(Zc HB2.out).1 1 _ rfl;have x2:=(Zc HB2.out).1 2 _ rfl;have x3:=(Zc HB2.out).1 3 _ rfl;have x4:=(Zc HB2.out).1 4 _ rfl;have x5:=(Zc HB2.out).1 5 _ rfl;have x6:=(Zc HB2.out).1 6 _ rfl;have x7:=(Zc HB2.out).1 7 _ rfl;have f0:=(Zc HR.out).1 0 _ rfl;have f1:=(Zc HR.out).1 1 _ rfl;have f2:=(Zc HR.out).1 2 _ rfl;have f3:=(Zc HR.out).1 3 _ rfl;have f4:=(Zc HR.out).1 4 _ rfl;have f5:=(Zc HR.out).1 5 _ rfl;have f6:=(Zc HR.out).1 6 _ rfl;have f7:=(Zc HR.out).1 7 _ rfl;have ff:=(Zc HR.out).2;go_wp2_with fail;have HZ:=Zh (blk_put8 HR.out (.bool x.buf) (.bool x.sec) (.bool x.mt) (.bool x.own) (.bool x.set) (.bool x.gone) (.int .i64 x.lent) (.int .i64 x.loops));have HFZ:=Zh (fr_put8 (g:=w.heap.size) (w:=W2) (S:=fun q=>q=w.heap.size) rfl (.bool x.buf) (.bool x.sec) (.bool x.mt) (.bool x.own) (.bool x.set) (.bool x.gone) (.int .i64 x.lent) (.int .i64 x.loops));generalize ((((((((W2.setCell ⟨w.heap.size,0,none⟩ (.bool x.buf)).setCell ⟨w.heap.size,1,none⟩ (.bool x.sec)).setCell ⟨w.heap.size,2,none⟩ (.bool x.mt)).setCell ⟨w.heap.size,3,none⟩ (.bool x.own)).setCell ⟨w.heap.size,4,none⟩ (.bool x.set)).setCell ⟨w.heap.size,5,none⟩ (.bool x.gone)).setCell ⟨w.heap.size,6,none⟩ (.int .i64 x.lent)).setCell ⟨w.heap.size,7,none⟩ (.int .i64 x.loops))=wz at*;clear f0 f1 f2 f3 f4 f5 f6 f7 ff;have f0:=(Zc HZ.out).1 0 _ rfl;have f1:=(Zc HZ.out).1 1 _ rfl;have f2:=(Zc HZ.out).1 2 _ rfl;have f3:=(Zc HZ.out).1 3 _ rfl;have f4:=(Zc HZ.out).1 4 _ rfl;have f5:=(Zc HZ.out).1 5 _ rfl;have f6:=(Zc HZ.out).1 6 _ rfl;have f7:=(Zc HZ.out).1 7 _ rfl;refine bodyPost_ret (v:=x.v) (by simp[results,Tryz.results115,go_sem,f0,f1,f2,f3,f4,f5,f6,f7]) rfl ⟨vaR_t (by rw[Nm.bufOk,HC3.out,HC4.out,HC5.out];rfl),HF.out.then HFZ.out (fun k hk e=>by have e:k=w.heap.size:=e;omega)⟩
theorem eturn_any (base b:Nat) (PV:Value) (ru:Int) (F:Nat) (w:World) (a:Ev) (bk:Nat) (nm:ByteArray) (h:EvAt base b PV ru F w a bk):
  Calls Tryz.prog 112 #[.pointer (some ⟨b,0,none⟩),.string nm] w fun e w'=>VaR a.n ru ((a.g nm).turnOk ru) (a.g nm).v e∧Fr Non w w':=by
 obtain⟨W1,HW1⟩:∃W1,W1=w.alloc (.cells #[.bool false,.bool false,.bool false,.bool false,.bool false,.bool false,.int .i64 0,.int .i64 0] 81):=⟨_,rfl⟩;have hf1:Fr Non w W1:=by rw[HW1];exact(Zf w).alloc _
 have hb1:W1.heap[w.heap.size]? =some (.cells #[.bool false,.bool false,.bool false,.bool false,.bool false,.bool false,.int .i64 0,.int .i64 0] 81 (0,0)):=by rw[HW1];exact blk_new _ _ _
 have HB:=Zh (ebuf_any base b PV ru F W1 a bk nm (h.stay hf1));have H:=Zh h;obtain⟨x,hx⟩:∃x,a.g nm=x:=⟨_,rfl⟩;rw[hx] at HB ⊢;clear hx h;have HR1:=Zh hb1;clear hb1;have HF1:=Zh hf1;clear hf1;go_enter Tryz.func112,Tryz.ntmps112;go_upto_region 1 with fail;rw[←HW1];clear HW1;go_wp2_with fail;refine HB.out.mono ?_;rintro e w2 ⟨he,hf2⟩;cases hk:x.bufOk ru with
 |false=>
  rw[hk] at he;obtain rfl:=he.f;clear he;have HC:=Zh hk;clear hk;have HF:=Zh (HF1.out.trans hf2);clear hf2;go_wp2_with fail;exact⟨rfl,vaR_f (by rw[Nm.turnOk,HC.out];rfl),HF.out⟩
 |true=>
  rw[hk] at he;obtain rfl:=he.t;clear he;have HC:=Zh hk;clear hk;obtain⟨W2,HW2⟩:∃W2,W2=w2.alloc (.cells #[.bool x.buf,.bool x.sec,.bool x.mt,.bool x.own,.bool x.set,.bool x.gone,.int .i64 x.lent,.int .i64 x.loops] 81):=⟨_,rfl⟩;have hf3:Fr Non w2 W2:=by rw[HW2];exact(Zf _).alloc _
  have hb2:W2.heap[w2.heap.size]? =some (.cells #[.bool x.buf,.bool x.sec,.bool x.mt,.bool x.own,.bool x.set,.bool x.gone,.int .i64 x.lent,.int .i64 x.loops] 81 (0,0)):=by rw[HW2];exact blk_new _ _ _
  have HF:=Zh ((HF1.out.trans hf2).trans hf3);have HR:=Zh (Zb (Zb HR1.out hf2 (non _)) hf3 (non _));have H2:=Zh (H.out.stay HF.out);have HB2:=Zh hb2;clear hb2 hf2 hf3;go_upto_region 2 with fail;rw[←HW2];clear HW2;have x2:=(Zc HB2.out).1 2 _ rfl;go_wp2_with fail;refine(ekind_any base b PV ru F W2 a bk x.mt H2.out).mono ?_;rintro e w3 ⟨he,rfl⟩;cases hk:chk ru 1 x.mt with
  |false=>
   rw[hk] at he;obtain rfl:=he.f;clear he;have HC3:=Zh hk;clear hk;go_wp2_with fail;exact⟨rfl,vaR_f (by rw[Nm.turnOk,HC.out,HC3.out];rfl),HF.out⟩
  |true=>
   rw[hk] at he;obtain rfl:=he.t;clear he;have HC3:=Zh hk;clear hk;clear x2;have x6:=(Zc HB2.out).1 6 _ rfl;go_wp2_with fail;refine(efree_any base b PV ru F W2 a bk (x.lent==0) H2.out).mono ?_;rintro e w4 ⟨he,rfl⟩;cases hk:chk ru 3 (x.lent==0) with
   |false=>
    rw[hk] at he;obtain rfl:=he.f;clear he;have HC4:=Zh hk;clear hk;go_wp2_with fail;exact⟨rfl,vaR_f (by rw[Nm.turnOk,HC.out,HC3.out,HC4.out];rfl),HF.out⟩
   |true=>
    rw[hk] at he;obtain rfl:=he.t;clear he;have HC4:=Zh hk;clear hk;clear x6;have x0:=(Zc HB2.out).1 0 _ rfl;have x1:=(Zc HB2.out).1 1 _ rfl;have x2:=(Zc HB2.out).1 2 _ rfl;have x3:=(Zc HB2.out).1 3 _ rfl;have x4:=(Zc HB2.out).1 4 _ rfl;have x5:=(Zc HB2.out).1 5 _ rfl;have x6:=(Zc HB2.out).1 6 _ rfl;have x7:=(Zc HB2.out).1 7 _ rfl;have f0:=(Zc HR.out).1 0 _ rfl;have f1:=(Zc HR.out).1 1 _ rfl;have f2:=(Zc HR.out).1 2 _ rfl;have f3:=(Zc HR.out).1 3 _ rfl;have f4:=(Zc HR.out).1 4 _ rfl;have f5:=(Zc HR.out).1 5 _ rfl;have f6:=(Zc HR.out).1 6 _ rfl;have f7:=(Zc HR.out).1 7 _ rfl;have ff:=(Zc HR.out).2;go_wp2_with fail;have HZ:=Zh (blk_put8 HR.out (.bool x.buf) (.bool x.sec) (.bool x.mt) (.bool x.own) (.bool x.set) (.bool x.gone) (.int .i64 x.lent) (.int .i64 x.loops));have HFZ:=Zh (fr_put8 (g:=w.heap.size) (w:=W2) (S:=fun q=>q=w.heap.size) rfl (.bool x.buf) (.bool x.sec) (.bool x.mt) (.bool x.own) (.bool x.set) (.bool x.gone) (.int .i64 x.lent) (.int .i64 x.loops));generalize ((((((((W2.setCell ⟨w.heap.size,0,none⟩ (.bool x.buf)).setCell ⟨w.heap.size,1,none⟩ (.bool x.sec)).setCell ⟨w.heap.size,2,none⟩ (.bool x.mt)).setCell ⟨w.heap.size,3,none⟩ (.bool x.own)).setCell ⟨w.heap.size,4,none⟩ (.bool x.set)).setCell ⟨w.heap.size,5,none⟩ (.bool x.gone)).setCell ⟨w.heap.size,6,none⟩ (.int .i64 x.lent)).setCell ⟨w.heap.size,7,none⟩ (.int .i64 x.loops))=wz at*;clear f0 f1 f2 f3 f4 f5 f6 f7 ff;have f0:=(Zc HZ.out).1 0 _ rfl;have f1:=(Zc HZ.out).1 1 _ rfl;have f2:=(Zc HZ.out).1 2 _ rfl;have f3:=(Zc HZ.out).1 3 _ rfl;have f4:=(Zc HZ.out).1 4 _ rfl;have f5:=(Zc HZ.out).1 5 _ rfl;have f6:=(Zc HZ.out).1 6 _ rfl;have f7:=(Zc HZ.out).1 7 _ rfl;refine bodyPost_ret (v:=x.v) (by simp[results,Tryz.results112,go_sem,f0,f1,f2,f3,f4,f5,f6,f7]) rfl ⟨vaR_t (by rw[Nm.turnOk,HC.out,HC3.out,HC4.out];rfl),HF.out.then HFZ.out (fun k hk e=>by have e:k=w.heap.size:=e;omega)⟩
theorem shape_kinds (e:Ex) (hs:shapeM e=true):e.kind.toNat=1∨e.kind.toNat=2∨e.kind.toNat=4∨(e.kind.toNat=5∧e.kids.length=1)∨(e.kind.toNat=3∧e.kids.length=2):=by
 unfold shapeM at hs;split at hs
 ·omega
 ·split at hs
  ·omega
  ·split at hs
   ·simp at hs;omega
   ·split at hs
    ·simp at hs;omega
    ·cases hs
theorem may_shape {k:UInt8} {n:UInt64} {nm:ByteArray} {o:UInt8} {l:List Ex} {d:Nat} (h:Ex.may (.mk k n nm o l) d=true):
  (k.toNat=1∨k.toNat=2∨k.toNat=4∨(k.toNat=5∧l.length=1)∨(k.toNat=3∧l.length=2))∧∀j (hj:j<l.length),Ex.may l[j] (d+1)=true:=by
 simp only[Ex.may,Bool.and_eq_true] at h;refine⟨?_,fun j hj=>?_⟩
 ·exact shape_kinds _ h.1.2
 ·have hm:=h.2;rw[mays_all,List.all_eq_true] at hm;exact hm _ (List.getElem_mem hj)
structure StillH (P:Program) (ops:Array Oper) (w:World) (Q:Act→Prop) (l:List Oper) (a:Act):Prop where
 out:wpStill P ops w Q l a
theorem stillH_skip {P:Program} {ops:Array Oper} {w:World} {Q:Act→Prop} {a:Act} {o:Oper} {rest:List Oper} (h0:Region.wanted o (yielded ops a.tmps)=false)
  (h:∀K:Act→Prop,(∀a,StillH P ops w Q rest a→K a)→K (a.put o.dst undef)):StillH P ops w Q (o::rest) a:=
 ⟨by rw[wpStill,if_neg (by rw[h0];exact Bool.false_ne_true)];exact(h _ fun _ h=>h).out⟩
theorem stillH_on {P:Program} {ops:Array Oper} {w:World} {Q:Act→Prop} {a:Act} {o:Oper} {rest:List Oper} (h0:Region.wanted o (yielded ops a.tmps)=true)
  (h:∀K:Act→Prop,(∀a,StillH P ops w Q rest a→K a)→o.still P a w K):StillH P ops w Q (o::rest) a:=
 ⟨by rw[wpStill,if_pos h0];exact h _ fun _ h=>h.out⟩
theorem stillH_nil {P:Program} {ops:Array Oper} {w:World} {Q:Act→Prop} {a:Act} (h:Q a):StillH P ops w Q [] a:=⟨h⟩
theorem gen_still {P:Program} {ops:Array Oper} {w:World} {Q:Act→Prop} {l:List Oper} {a:Act} (h:∀Q':Act→Prop,(∀a,Q a→Q' a)→StillH P ops w Q' l a):wpStill P ops w Q l a:=(h Q fun _ h=>h).out
end Go.Proofs.YtgiomfnpkkdknaaGreatDoor
