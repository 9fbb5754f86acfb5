/- Contracts and laws, Mh20 -/
import Derived.Test.YtpkpgmnbheenbaaGreatDoorMh01
import Derived.Test.YtpkpgmnbheenbaaGreatDoorMh03
import Derived.Test.YtpkpgmnbheenbaaGreatDoorMh17
import Derived.Test.YtpkpgmnbheenbaaGreatDoorMh19
import Derived.StillTailTactics
import Derived.Deep.CutBlock
import Derived.Deep.AppendLies
import Derived.Deep.DeepCutAuto
import Derived.Deep.RegionHeld3
import Derived.Deep.RegionLaw
import Derived.Recover
import Derived.Defers
namespace Go.Proofs.YtpkpgmnbheenbaaGreatDoor
open Go.RowKit
set_option linter.unusedVariables false
set_option linter.unusedSimpArgs false
set_option maxHeartbeats 8000000
set_option maxRecDepth 100000
structure Rows2 (B:Nat) (l:List Pa) (v5 v6:Value) (w:World):Prop where
 nums:w.ownsRow B 56 4 v5 (l.filter fun x=> !x.buf).length (pasC (l.filter fun x=> !x.buf))
 bufs:w.ownsRow B 56 4 v6 (l.filter fun x=>x.buf).length (pasC (l.filter fun x=>x.buf))
 ne:∀k,v5.ownBlock=some k→v6.ownBlock≠some k
theorem Rows2.fr {B:Nat} {l:List Pa} {v5 v6:Value} {w w':World} (h:Rows2 B l v5 v6 w) {S:Nat→Prop} (hf:Fr S w w') (hs:∀k,B≤k→¬S k):Rows2 B l v5 v6 w':=
 ⟨ownsRow_fr h.nums hf hs,ownsRow_fr h.bufs hf hs,h.ne⟩
theorem ownsRow_frA {base:Nat} {e:TypeId} {sz:Nat} {w w':World} {v:Value} {n:Nat} {xs:List Value} (h:w.ownsRow base e sz v n xs) (hf:Fr Non w w'):w'.ownsRow base e sz v n xs:=ownsRow_fr h hf fun _ _=>non _
theorem Rows2.nil (B:Nat) (w:World):Rows2 B [] (.slice none 0 0) (.slice none 0 0) w:=⟨World.ownsRow_nil _ _ _ _,World.ownsRow_nil _ _ _ _,fun k h=>by cases h⟩
theorem and3_false {c d:Bool} (h:c=false):(true&&(true&&(c&&d)))=false:=by subst h;rfl
theorem and_f1 {c d:Bool} (h:c=false):(c&&d)=false:=by subst h;rfl
theorem and_f2 {c d:Bool} (h:c=false):(true&&(c&&d))=false:=by subst h;rfl
theorem and_f3 {c:Bool} (h:c=false):(true&&(true&&c))=false:=by subst h;rfl
theorem and_t3 {c:Bool} (h:c=true):(true&&(true&&c))=true:=by subst h;rfl
def PaOn (B:Nat) (l:List Pa) (W2:World) (k:Nat) (v5 v6:Value) (wr:World):Prop:=Rows2 B (l.take k) v5 v6 wr∧Fr Non W2 wr
theorem filt_snoc {p:Pa→Bool} (l:List Pa) (k:Nat) (hk:k<l.length):(l.take (k+1)).filter p=(l.take k).filter p++(if p l[k] then[l[k]] else[]):=by
 rw[List.take_succ_eq_append_getElem hk,List.filter_append];cases h:p l[k]<;>simp[h]
theorem range_false {p:Nat→Bool} {n k:Nat} (hk:k<n) (h:p k=false):(List.range n).all p=false:=by
 rw[List.all_eq_false];exact⟨k,List.mem_range.2 hk,by rw[h];decide⟩
theorem range_true {p:Nat→Bool} {n:Nat} (h:∀j,j<n→p j=true):(List.range n).all p=true:=by
 rw[List.all_eq_true];intro j hj;exact h j (List.mem_range.1 hj)
theorem ecall_any (base b:Nat) (ok:Nat→Prop) (PA:Option Addr) (pc:Nat) (P:List Fu) (F:Nat) (ru:Int) (s:St) (d:Nat) (A1 A2 A3 A4:Option Addr) (c1 c2 c3 c4:Nat) (w:World) (a:Ev) (bk:Nat) (hk:s.kind.toNat=11) (hok:St.ok s d=true) (hrd:StRd ok w s A1 A2 A3 A4 c1 c2 c3 c4)
  (h:EvAt base b (.slice PA P.length pc) ru F w a bk) (hP:ScP base ok PA pc P F w):
  Calls Tryz.prog 97 #[.pointer (some ⟨b,0,none⟩),stV s A1 A2 A3 A4 c1 c2 c3 c4] w (StE base b (.slice PA P.length pc) ru F w bk (evStmt ru P F s a)):=by
 have FF:=form_facts (sc_form s d hok);have HEXS:=Zh FF.exs;have HS:=Zh (evs_11 ru P F s a hk);clear FF hok;obtain⟨W0,HW0⟩:∃W0,W0=w.alloc (.cells #[vu8 s.kind,.string s.name,.string s.frm,.bool s.sec,.bool s.mt,.slice A1 s.ex.length c1,.slice A2 s.args.length c2,.slice A3 s.body.length c3,.slice A4 s.els.length c4] 42):=⟨_,rfl⟩;have hf0:Fr Non w W0:=by rw[HW0];exact(Zf w).alloc _
 have B0:=Zh (show W0.heap[w.heap.size]? =some (.cells #[vu8 s.kind,.string s.name,.string s.frm,.bool s.sec,.bool s.mt,.slice A1 s.ex.length c1,.slice A2 s.args.length c2,.slice A3 s.body.length c3,.slice A4 s.els.length c4] 42 (0,0)) by rw[HW0];exact blk_new _ _ _);have H0:=Zh (h.stay hf0);have D0:=Zh (hrd.fr hf0 fun _ _=>non _);have F0:=Zh hf0;have hwb:=(h.lt b (.inl rfl)).2;have hwk:=(h.lt bk (.inr rfl)).2;have hoks:∀q,ok q→q<w.heap.size:=fun q hq=>by have h1:=hP.hok q hq;have h2:=h.hb;omega
 have HOKS:=Zh hoks;clear hoks;have hl1:s.ex.length≤140737488355328:=by have:=hrd.ex.2.1;unfold reach at this;omega
 have hl2:s.args.length≤140737488355328:=by have:=hrd.args.2.1;unfold reach at this;omega
 have hl1c:=hrd.ex.1;have hl2c:=hrd.args.1;have HCA:=Zh (ecallee_any base b ok PA pc P F ru W0 a bk s.frm H0.out (hP.fr hf0 fun _ _=>non _));clear h hrd hf0 hP;go_enter Tryz.func97,Tryz.ntmps97;go_upto_region 1 with fail;rw[←HW0];clear HW0;have s2:=(Zc B0.out).1 2 _ rfl;go_wp2_with fail;refine HCA.out.mono ?_;rintro e w1 ⟨B1,B2,B3,d1,d2,d3,rfl,hfr,hf1⟩;clear s2;generalize calleeM P F s.frm=f at*;obtain⟨W2,HW2⟩:∃W2,W2=w1.alloc (.cells #[.string f.name,.slice B1 f.params.length d1,.slice B2 f.body.length d2,.bool f.sec,.slice B3 f.ret.length d3] 53):=⟨_,rfl⟩;have hf2:Fr Non w1 W2:=by rw[HW2];exact(Zf _).alloc _
 have X2:=Zh (show W2.heap[w1.heap.size]? =some (.cells #[.string f.name,.slice B1 f.params.length d1,.slice B2 f.body.length d2,.bool f.sec,.slice B3 f.ret.length d3] 53 (0,0)) by rw[HW2];exact blk_new _ _ _);have hf:=hf1.trans hf2;have HR2:=Zh (hfr.fr hf2 fun _ _=>non _);have H2:=Zh (H0.out.stay hf);have E2:=Zh (Zb B0.out hf (non _));have D2:=Zh (D0.out.fr hf fun _ _=>non _);have F2:=Zh (F0.out.trans hf);have hz1:w.heap.size≤w1.heap.size:=(F0.out.trans hf1).size;clear hfr hf1 hf2 hf;obtain⟨fb,hfb⟩:∃fb,fb=w1.heap.size:=⟨_,rfl⟩;go_upto_region 2 with fail;rw[←HW2];clear HW2;rw[←hfb] at X2 hz1 ⊢;clear hfb;have f1:=(Zc X2.out).1 1 _ rfl;have hlp:f.params.length≤140737488355328:=by have:=HR2.out.params.2.1;unfold reach at this;omega
 obtain⟨BB,hBB⟩:∃BB,BB=W2.heap.size:=⟨_,rfl⟩;have hzf:fb<BB:=by rw[hBB];exact blk_lt X2.out
 have hzb:w.heap.size<BB:=by omega
 have HBB:=Zh hBB;clear hBB;go_wp2_with fail
 go_loopw [5,6,24] (fun v5 v6 i wr=>∃k:Nat,i= .int .i64 k∧k≤f.params.length∧PaOn BB f.params W2 k v5 v6 wr) (fun _ _ i _=>f.params.length-(intOf i).toNat)
 case atStart=>exact⟨0,rfl,by omega,Rows2.nil _ _,Zf _⟩
 case round=>
  obtain⟨k,rfl,hk,hrw,hfr⟩:=hrel;by_cases hlt:k<f.params.length
  ·obtain⟨g,o,hB1,hd,e0,e1,e2,e3⟩:=at_pa (HR2.out.params.2.2.fr hfr (fun _ _=>non _) fun _ h=>h) k hlt;subst hB1;obtain⟨x,hx⟩:∃x,f.params[k]=x:=⟨_,rfl⟩;rw[hx] at e0 e1 e2 e3;have HX:=Zh hx;clear hx;obtain⟨W3,HW3'⟩:∃W3,W3=wr.alloc (.cells #[.string x.name,.bool x.buf,.bool x.sec,.bool x.mt] 56):=⟨_,rfl⟩;have hf3:Fr Non wr W3:=by rw[HW3'];exact(Zf _).alloc _
   have Y3:=Zh (show W3.heap[wr.heap.size]? =some (.cells #[.string x.name,.bool x.buf,.bool x.sec,.bool x.mt] 56 (0,0)) by rw[HW3'];exact blk_new _ _ _);have HRW:=Zh (hrw.fr hf3 (fun _ _=>non _));have HW3:=Zh (hfr.trans hf3);have hzw:W2.heap.size≤wr.heap.size:=hfr.size;clear hrw hfr hf3;have y0:=(Zc Y3.out).1 0 _ rfl;have y1:=(Zc Y3.out).1 1 _ rfl;have y2:=(Zc Y3.out).1 2 _ rfl;have y3:=(Zc Y3.out).1 3 _ rfl;go_upto_region 6 with fail;rw[←HW3'];clear HW3' e0 e1 e2 e3;cases hxb:x.buf with
   |true=>
    have y1':W3.cell? ⟨wr.heap.size,1,none⟩=some (.bool true):=by rw[←hxb];exact y1
    clear y1;have HXB:=Zh hxb;clear hxb;have hsnm:=filt_snoc (p:=(fun x:Pa=>x.buf)) f.params k hlt;have hsno:=filt_snoc (p:=(fun x:Pa=> !x.buf)) f.params k hlt;rw[HX.out] at hsnm hsno;simp only[HXB.out,Bool.not_true,Bool.not_false,Bool.false_eq_true,↓reduceIte,List.append_nil] at hsnm hsno;have HSM:=Zh hsnm;have HSO:=Zh hsno;clear hsnm hsno;go_upto_region 7 with fail;go_wp2_with (at_builtin;refine app_pas rfl _ _ rfl BB u6 ((f.params.take k).filter (fun x:Pa=>x.buf)) rfl ?qo ⟨W3.heap.size,0,none⟩ 1 x rfl ?qs ?qb ?qc ?qk)
    case qo=>exact ownsRow_frA HRW.out.bufs ((Zf W3).alloc _)
    case qs=>
     intro j u hu;have hxc:x.cells=[.string x.name,.bool true,.bool x.sec,.bool x.mt]:=by rw[Pa.cells,HXB.out]
     rw[hxc] at hu;exact new_cells _ _ _ j u hu
    case qb=>
     have h1:=List.length_filter_le ((fun x:Pa=>x.buf)) (f.params.take k);have h4:(f.params.take k).length≤f.params.length:=(by rw[List.length_take];exact Nat.min_le_right _ _);exact Nat.le_trans (Nat.mul_le_mul_right _ (Nat.le_trans h1 h4)) HR2.out.params.2.1
    case qc=>have:=HW3.out.size;have:=HBB.out;simp;omega
    case qk=>
     intro v' w4 hown hwh hf4;have hz4:=HW3.out.size;have HRW4:=Zh (show Rows2 BB (f.params.take (k+1)) u5 v' w4 from {
      bufs:=by rw[HSM.out,List.length_append];exact hown
      nums:=by rw[HSO.out];exact row_fr (ownsRow_frA HRW.out.nums ((Zf W3).alloc _)) hf4 (fun q hq h=>HRW.out.ne q hq h.2)
      ne:=fun q hq1 hq2=>by
       rcases hwh q hq2 with h1|h1
       ·exact HRW.out.ne q hq1 h1
       ·have h2:=(HRW.out.nums.lt q hq1).2;first|omega|(simp at h1;omega)})
     have HF4:=Zh (show Fr Non W2 w4 from(HW3.out.trans ((Zf W3).alloc _)).then hf4 fun q hq h=>by have h1:BB≤q:=h.1;rw[HBB.out] at h1;omega);clear hown hwh hf4;go_wp2_with fail;go_roundw
     case rel=>exact⟨k+1,by go_num,by omega,HRW4.out,HF4.out⟩
     case measure=>simp[intOf];omega
   |false=>
    have y1':W3.cell? ⟨wr.heap.size,1,none⟩=some (.bool false):=by rw[←hxb];exact y1
    clear y1;have HXB:=Zh hxb;clear hxb;have hsnm:=filt_snoc (p:=(fun x:Pa=> !x.buf)) f.params k hlt;have hsno:=filt_snoc (p:=(fun x:Pa=>x.buf)) f.params k hlt;rw[HX.out] at hsnm hsno;simp only[HXB.out,Bool.not_true,Bool.not_false,Bool.false_eq_true,↓reduceIte,List.append_nil] at hsnm hsno;have HSM:=Zh hsnm;have HSO:=Zh hsno;clear hsnm hsno;go_upto_region 8 with fail;go_wp2_with (at_builtin;refine app_pas rfl _ _ rfl BB u5 ((f.params.take k).filter (fun x:Pa=> !x.buf)) rfl ?qo ⟨W3.heap.size,0,none⟩ 1 x rfl ?qs ?qb ?qc ?qk)
    case qo=>exact ownsRow_frA HRW.out.nums ((Zf W3).alloc _)
    case qs=>
     intro j u hu;have hxc:x.cells=[.string x.name,.bool false,.bool x.sec,.bool x.mt]:=by rw[Pa.cells,HXB.out]
     rw[hxc] at hu;exact new_cells _ _ _ j u hu
    case qb=>
     have h1:=List.length_filter_le ((fun x:Pa=> !x.buf)) (f.params.take k);have h4:(f.params.take k).length≤f.params.length:=(by rw[List.length_take];exact Nat.min_le_right _ _);exact Nat.le_trans (Nat.mul_le_mul_right _ (Nat.le_trans h1 h4)) HR2.out.params.2.1
    case qc=>have:=HW3.out.size;have:=HBB.out;simp;omega
    case qk=>
     intro v' w4 hown hwh hf4;have hz4:=HW3.out.size;have HRW4:=Zh (show Rows2 BB (f.params.take (k+1)) v' u6 w4 from {
      nums:=by rw[HSM.out,List.length_append];exact hown
      bufs:=by rw[HSO.out];exact row_fr (ownsRow_frA HRW.out.bufs ((Zf W3).alloc _)) hf4 (fun q hq h=>HRW.out.ne q h.2 hq)
      ne:=fun q hq1 hq2=>by
       rcases hwh q hq1 with h1|h1
       ·exact HRW.out.ne q h1 hq2
       ·have h2:=(HRW.out.bufs.lt q hq2).2;first|omega|(simp at h1;omega)})
     have HF4:=Zh (show Fr Non W2 w4 from(HW3.out.trans ((Zf W3).alloc _)).then hf4 fun q hq h=>by have h1:BB≤q:=h.1;rw[HBB.out] at h1;omega);clear hown hwh hf4;go_wp2_with fail;go_roundw
     case rel=>exact⟨k+1,by go_num,by omega,HRW4.out,HF4.out⟩
     case measure=>simp[intOf];omega
  ·have hke:k=f.params.length:=by omega
   subst hke;rw[List.take_length] at hrw;obtain⟨wp,rfl⟩:∃wp:World,wp=wr:=⟨_,rfl⟩;clear f1;have hb5:=(row_slice hrw.nums);obtain⟨N5,k5,rfl,hk5⟩:=hb5;obtain⟨N6,k6,rfl,hk6⟩:=row_slice hrw.bufs;obtain⟨nums,hnums⟩:∃nums,numsOf f=nums:=⟨_,rfl⟩;obtain⟨bufs,hbufs⟩:∃bufs,bufsOf f=bufs:=⟨_,rfl⟩;have RN:=Zh (show wp.ownsRow BB 56 4 (.slice N5 nums.length k5) nums.length (pasC nums) by rw[←hnums];exact hrw.nums);have RB:=Zh (show wp.ownsRow BB 56 4 (.slice N6 bufs.length k6) bufs.length (pasC bufs) by rw[←hbufs];exact hrw.bufs);rw[show(f.params.filter fun x=> !x.buf)=nums from hnums,show(f.params.filter fun x=>x.buf)=bufs from hbufs] at*;have hnl:nums.length≤140737488355328:=by rw[←hnums];exact Nat.le_trans (List.length_filter_le _ _) hlp
   have hbl:bufs.length≤140737488355328:=by rw[←hbufs];exact Nat.le_trans (List.length_filter_le _ _) hlp
   have HCO:=Zh (show a.callOk ru f s.name s.ex s.args=((List.range s.ex.length).all (a.exOk ru nums s.ex)&&(s.args.all (fun x=>(a.g x).bufOk ru)&&
    (chk ru 1 ((nums.length==s.ex.length)&&((bufs.length==s.args.length)&&(emp s.name||decide (0<f.ret.length))))&&(List.range bufs.length).all (a.bfOk ru bufs s.args)))) by rw[Ev.callOk,hnums,hbufs])
   have HNB:=Zh (And.intro hnums hbufs);have HRT:=Zh (HR2.out.ret);have H3:=Zh (H2.out.stay hfr);have E3:=Zh (Zb E2.out hfr (non _));have D3:=Zh (D2.out.fr hfr fun _ _=>non _);have F3:=Zh (F2.out.trans hfr);have X3:=Zh (Zb X2.out hfr (non _));have hz3:W2.heap.size≤wp.heap.size:=hfr.size;clear hrw hfr hnums hbufs hk;have s5:=(Zc E3.out).1 5 _ rfl;go_wp2_with fail
   go_loopw [42] (fun i wr=>∃k:Nat,i= .int .i64 k∧k≤s.ex.length∧Fr Non wp wr∧∀j,j<k→a.exOk ru nums s.ex j=true) (fun i _=>s.ex.length-(intOf i).toNat)
   case atStart=>exact⟨0,rfl,by omega,Zf _,fun j hj=>by omega⟩
   case round=>
    obtain⟨k,rfl,hk,hfr,hno⟩:=hrel;have HNO:=Zh hno;clear hno;by_cases hlt:k<s.ex.length
    ·obtain⟨xb,xo,xA,xc,hA1,x0,x1,x2,x3,x4,xr⟩:=ex_cells (D3.out.fr hfr fun _ _=>non _).ex.2.2 k hlt;subst hA1;have HEM:=Zh (exs_all HEXS.out hlt);obtain⟨W3,HW3'⟩:∃W3,W3=wr.alloc (.cells #[vu8 (exAt s.ex k).kind,vu64 (exAt s.ex k).num,.string (exAt s.ex k).name,vu8 (exAt s.ex k).op,.slice xA (exAt s.ex k).kids.length xc] 48):=⟨_,rfl⟩;have hf3:Fr Non wr W3:=by rw[HW3'];exact(Zf _).alloc _
     have Y3:=Zh (show W3.heap[wr.heap.size]? =some (.cells #[vu8 (exAt s.ex k).kind,vu64 (exAt s.ex k).num,.string (exAt s.ex k).name,vu8 (exAt s.ex k).op,.slice xA (exAt s.ex k).kids.length xc] 48 (0,0)) by rw[HW3'];exact blk_new _ _ _);have hf3d:=hfr.trans (hf3.trans (Zf W3).drew);have H4:=Zh (H3.out.stay hf3d);have F4:=Zh hf3d;have HXR:=Zh (xr.fr (hf3.trans (Zf W3).drew) (fun _ _=>non _) fun _ h=>h);have RN4:=Zh (ownsRow_frA RN.out (hfr.trans hf3));clear hf3 hf3d xr hfr;have y0:=(Zc Y3.out).1 0 _ rfl;have y1:=(Zc Y3.out).1 1 _ rfl;have y2:=(Zc Y3.out).1 2 _ rfl;have y3:=(Zc Y3.out).1 3 _ rfl;have y4:=(Zc Y3.out).1 4 _ rfl;go_upto_region 13 with fail;rw[←HW3'];clear HW3' x0 x1 x2 x3 x4 s5;by_cases hkn:k<nums.length
     ·have hd1:decide ((nums.length:Int)≤(k:Int))=false:=decide_eq_false (by omega);have hd2:decide (nums.length≤k)=false:=decide_eq_false (by omega);obtain⟨g,cc,hs,z0,z1,z2,z3⟩:=pas_at RN4.out k hkn;obtain⟨rfl,rfl⟩:N5=some ⟨g,0,none⟩∧k5=cc:=by cases hs;exact⟨rfl,rfl⟩
      clear hs z0 z1 z3;obtain⟨xs,hxs⟩:∃v,(nums.getD k Pa.zero).sec=v:=⟨_,rfl⟩;rw[hxs] at z2;have HEO:=Zh (show a.exOk ru nums s.ex k=a.into ru (exAt s.ex k) xs by rw[Ev.exOk,hd2,hxs,Bool.false_or]);clear hxs;refine wp_region_still_tail 13 (by kernel_rfl) (by kernel_rfl) ?_;simp only[List.take_succ_cons,List.take_zero,List.drop_succ_cons,List.drop_zero];refine gen_still fun QX hQX=>?_;have HQX:=Zh hQX;clear hQX;refine stillH_on (by kernel_rfl) (fun K hK=>?_);go_simp;refine hK _ ?_;clear hK K;refine stillH_on (by kernel_rfl) (fun K hK=>?_);go_simp;refine hK _ ?_;clear hK K;refine stillH_on (by kernel_rfl) (fun K hK=>?_);go_simp;refine hK _ ?_;clear hK K;refine stillH_on (by kernel_rfl) (fun K hK=>?_);go_simp;refine hK _ ?_;clear hK K;refine stillH_on (by kernel_rfl) (fun K hK=>?_);go_simp;refine hK _ ?_;clear hK K;refine stillH_on (by kernel_rfl) (fun K hK=>?_);go_simp;refine hK _ ?_;clear hK K;refine stillH_on (by kernel_rfl) (fun K hK=>?_);go_simp;refine hK _ ?_;clear hK K;refine stillH_on (by kernel_rfl) (fun K hK=>?_);go_simp;refine hK _ ?_;clear hK K;refine stillH_on (by kernel_rfl) (fun K hK=>?_);go_simp;refine hK _ ?_;clear hK K;refine stillH_on (by kernel_rfl) (fun K hK=>?_);go_simp;refine hK _ ?_;clear hK K;refine stillH_on (by kernel_rfl) (fun K hK=>?_);go_simp;refine hK _ ?_;clear hK K;refine stillH_on (by kernel_rfl) (fun K hK=>?_);go_simp;refine hK _ ?_;clear hK K;refine stillH_on (by kernel_rfl) (fun K hK=>?_);go_simp;refine hK _ ?_;clear hK K;refine stillH_nil (HQX.out _ ?_)
      change wpList _ _ _ _ _ W3.drew
      go_wp2_with fail;refine(einto_any (exAt s.ex k) xs ok xA xc base b _ ru F W3.drew a bk HEM.out HXR.out H4.out).mono ?_;rintro r w4 ⟨he,hf⟩;have HF4:=Zh (F4.out.trans hf);clear hf;cases hq:a.into ru (exAt s.ex k) xs with
      |false=>
       rw[hq] at he;obtain rfl:=he.f;clear he;have Q:=Zh hq;clear hq;go_wp2_with fail;exact⟨rfl,stE_no HS.out (by rw[HCO.out,range_false hlt (by rw[HEO.out,Q.out])];rfl) (F3.out.trans HF4.out)⟩
      |true=>
       rw[hq] at he;obtain rfl:=he.t;clear he;have Q:=Zh hq;clear hq;go_wp2_with fail;go_roundw
       case rel=>exact⟨k+1,by go_num,by omega,HF4.out,till HNO.out (by rw[HEO.out,Q.out])⟩
       case measure=>simp[intOf];omega
     ·have hd1:decide ((nums.length:Int)≤(k:Int))=true:=decide_eq_true (by omega);have hd2:decide (nums.length≤k)=true:=decide_eq_true (by omega);have HEO:=Zh (show a.exOk ru nums s.ex k=a.into ru (exAt s.ex k) true by rw[Ev.exOk,hd2,Bool.true_or]);refine wp_region_still_tail 13 (by kernel_rfl) (by kernel_rfl) ?_;simp only[List.take_succ_cons,List.take_zero,List.drop_succ_cons,List.drop_zero];refine gen_still fun QX hQX=>?_;have HQX:=Zh hQX;clear hQX;refine stillH_on (by kernel_rfl) (fun K hK=>?_);go_simp;refine hK _ ?_;clear hK K;refine stillH_on (by kernel_rfl) (fun K hK=>?_);go_simp;refine hK _ ?_;clear hK K;refine stillH_on (by kernel_rfl) (fun K hK=>?_);go_simp;refine hK _ ?_;clear hK K;refine stillH_on (by kernel_rfl) (fun K hK=>?_);go_simp;refine hK _ ?_;clear hK K;refine stillH_on (by kernel_rfl) (fun K hK=>?_);go_simp;refine hK _ ?_;clear hK K;refine stillH_on (by kernel_rfl) (fun K hK=>?_);go_simp;refine hK _ ?_;clear hK K;refine stillH_on (by kernel_rfl) (fun K hK=>?_);go_simp;refine hK _ ?_;clear hK K;refine stillH_skip (by kernel_rfl) (fun K hK=>?_);go_simp;refine hK _ ?_;clear hK K;refine stillH_skip (by kernel_rfl) (fun K hK=>?_);go_simp;refine hK _ ?_;clear hK K;refine stillH_skip (by kernel_rfl) (fun K hK=>?_);go_simp;refine hK _ ?_;clear hK K;refine stillH_skip (by kernel_rfl) (fun K hK=>?_);go_simp;refine hK _ ?_;clear hK K;refine stillH_skip (by kernel_rfl) (fun K hK=>?_);go_simp;refine hK _ ?_;clear hK K;refine stillH_on (by kernel_rfl) (fun K hK=>?_);go_simp;refine hK _ ?_;clear hK K;refine stillH_nil (HQX.out _ ?_)
      change wpList _ _ _ _ _ W3.drew
      go_wp2_with fail;refine(einto_any (exAt s.ex k) true ok xA xc base b _ ru F W3.drew a bk HEM.out HXR.out H4.out).mono ?_;rintro r w4 ⟨he,hf⟩;have HF4:=Zh (F4.out.trans hf);clear hf;cases hq:a.into ru (exAt s.ex k) true with
      |false=>
       rw[hq] at he;obtain rfl:=he.f;clear he;have Q:=Zh hq;clear hq;go_wp2_with fail;exact⟨rfl,stE_no HS.out (by rw[HCO.out,range_false hlt (by rw[HEO.out,Q.out])];rfl) (F3.out.trans HF4.out)⟩
      |true=>
       rw[hq] at he;obtain rfl:=he.t;clear he;have Q:=Zh hq;clear hq;go_wp2_with fail;go_roundw
       case rel=>exact⟨k+1,by go_num,by omega,HF4.out,till HNO.out (by rw[HEO.out,Q.out])⟩
       case measure=>simp[intOf];omega
    ·have hke:k=s.ex.length:=by omega
     subst hke;have QE:=Zh (range_true HNO.out);obtain⟨wq,rfl⟩:∃wq:World,wq=wr:=⟨_,rfl⟩;have hmm:=@run_makeMap Tryz.prog;clear s5;have H5:=Zh (H3.out.stay hfr);have E5:=Zh (Zb E3.out hfr (non _));have D5:=Zh (D3.out.fr hfr fun _ _=>non _);have F5:=Zh (F3.out.trans hfr);have X5:=Zh (Zb X3.out hfr (non _));have RN5:=Zh (ownsRow_frA RN.out hfr);have RB5:=Zh (ownsRow_frA RB.out hfr);have hz5:W2.heap.size≤wq.heap.size:=Nat.le_trans hz3 hfr.size;clear hfr;obtain⟨W6,HW6⟩:∃W6,W6=wq.alloc (.map #[] 0):=⟨_,rfl⟩;have hf6:Fr Non wq W6:=by rw[HW6];exact(Zf _).alloc _
     have TM6:=Zh (show TimesAt W6 wq.heap.size [] by rw[HW6];exact TimesAt.new _);have H6:=Zh (H5.out.stay hf6);have E6:=Zh (Zb E5.out hf6 (non _));have D6:=Zh (D5.out.fr hf6 fun _ _=>non _);have F6:=Zh (F5.out.trans hf6);have X6:=Zh (Zb X5.out hf6 (non _));have RN6:=Zh (ownsRow_frA RN5.out hf6);have RB6:=Zh (ownsRow_frA RB5.out hf6);clear hf6;obtain⟨bt,hbt⟩:∃bt,bt=wq.heap.size:=⟨_,rfl⟩;have hbz:BB≤bt:=by have:=HBB.out;omega
     go_upto_region 16 with fail;rw[←HW6];clear HW6 hmm;rw[←hbt] at TM6 ⊢;have HBT:=Zh hbt;clear hbt;have hnob:∀q,ok q→¬(fun q=>q=bt) q:=fun q hq e=>by have e:q=bt:=e;have:=HOKS.out q hq;omega
     have HNOB:=Zh hnob;clear hnob;have s6:=(Zc E6.out).1 6 _ rfl;go_wp2_with fail
     go_loopw [66] (fun i wr=>∃k:Nat,i= .int .i64 k∧k≤s.args.length∧TimesAt wr bt (s.args.take k)∧Fr (fun q=>q=bt) W6 wr∧∀j,j<k→∀hj:j<s.args.length,(a.g s.args[j]).bufOk ru=true) (fun i _=>s.args.length-(intOf i).toNat)
     case atStart=>exact⟨0,rfl,by omega,TM6.out,Fr.refl _ _,fun j hj=>by omega⟩
     case round=>
      obtain⟨k,rfl,hk,htm,hfr,hno⟩:=hrel;have HNO:=Zh hno;clear hno;have H7:=Zh (H6.out.fr hfr (fun q hq e=>by have e:q=bt:=e;rcases hq with rfl|rfl<;>omega));have FR:=Zh hfr;have F7:=Zh (F6.out.then hfr (S:=Non) fun q hq e=>by have e:q=bt:=e;omega);by_cases hlt:k<s.args.length
      ·obtain⟨g,o,hA2,hd,e0⟩:=at_str (D6.out.fr hfr HNOB.out).args.2.2 k hlt;subst hA2;obtain⟨x,hx⟩:∃x,s.args[k]=x:=⟨_,rfl⟩;rw[hx] at e0;have HX:=Zh hx;clear hx;have HTM:=Zh htm;clear htm hfr;go_wp2_with fail;refine(ebuf_any base b _ ru F wr a bk x H7.out).mono ?_;rintro r w4 ⟨he,hf⟩;cases hq:(a.g x).bufOk ru with
       |false=>
        rw[hq] at he;obtain rfl:=he.f;clear he;have Q:=Zh hq;clear hq;have F8:=Zh (F7.out.trans hf);clear hf;go_wp2_with fail;exact⟨rfl,stE_no HS.out (by rw[HCO.out,QE.out,all_false_of k hlt (by rw[HX.out,Q.out])];rfl) F8.out⟩
       |true=>
        rw[hq] at he;obtain rfl:=he.t;clear he;have Q:=Zh hq;clear hq;have ht4:=HTM.out.fr hf (non _);have hlk:=ht4.look x;obtain⟨w5,hput,ht5,hf5⟩:=ht4.put x;obtain⟨tm,htm⟩:∃tm,timesM (s.args.take k) x=tm:=⟨_,rfl⟩;have htl:tm≤140737488355328:=by rw[←htm];have:=times_le (s.args.take k) x;rw[List.length_take] at this;omega
        rw[htm] at hlk hput;have HT5:=Zh ht5;have HF5:=Zh (FR.out.trans (hf.non.trans hf5));clear ht4 ht5 hf hf5 htm;go_wp2_with fail;go_roundw
        case rel=>exact⟨k+1,by go_num,by omega,by rw[List.take_succ_eq_append_getElem hlt,HX.out];exact HT5.out,HF5.out,till HNO.out fun _=>by rw[HX.out,Q.out]⟩
        case measure=>simp[intOf];omega
      ·have hke:k=s.args.length:=by omega
       subst hke;rw[List.take_length] at htm;have QA:=Zh (show(s.args.all fun x=>(a.g x).bufOk ru)=true from all_true_of fun j hj=>HNO.out j hj hj);have E7:=Zh (Zb E6.out hfr (by omega));have D7:=Zh (D6.out.fr hfr HNOB.out);have X7:=Zh (Zb X6.out hfr (by omega));have hrn:=fun q (hq:BB≤q) (hq2:q<wq.heap.size) (e:q=bt)=>by have:=HBT.out;omega
       have RN7:=Zh (row_fr RN6.out hfr (fun q hq e=>by have e:q=bt:=e;have h1:=(RN5.out.lt q hq).2;have:=HBT.out;omega));have RB7:=Zh (row_fr RB6.out hfr (fun q hq e=>by have e:q=bt:=e;have h1:=(RB5.out.lt q hq).2;have:=HBT.out;omega));have HTM:=Zh htm;clear htm hrn hfr;obtain⟨wp3,rfl⟩:∃wp3:World,wp3=wr:=⟨_,rfl⟩;clear s6;obtain⟨q1,hq1⟩:∃q,(nums.length==s.ex.length)=q:=⟨_,rfl⟩;obtain⟨q2,hq2⟩:∃q,(bufs.length==s.args.length)=q:=⟨_,rfl⟩;obtain⟨q3,hq3⟩:∃q,emp s.name=q:=⟨_,rfl⟩;obtain⟨q4,hq4⟩:∃q,decide (0<f.ret.length)=q:=⟨_,rfl⟩;have HCO:=Zh HCO.out;have HCK:=Zh (show((nums.length==s.ex.length)&&((bufs.length==s.args.length)&&(emp s.name||decide (0<f.ret.length))))=(q1&&(q2&&(q3||q4))) by rw[hq1,hq2,hq3,hq4]);have i1:((nums.length:Int)==(s.ex.length:Int))=q1:=by rw[←hq1,Bool.eq_iff_iff];simp;omega
       have i2:((bufs.length:Int)==(s.args.length:Int))=q2:=by rw[←hq2,Bool.eq_iff_iff];simp;omega
       have i3:s.name.toList.isEmpty=q3:=by rw[toemp];exact hq3
       have i4:decide ((0:Int)<(f.ret.length:Int))=q4:=by rw[←hq4];exact decide_eq_decide.2 (by omega)
       have HQ3:=Zh hq3;clear hq3;have hlr:f.ret.length≤140737488355328:=by have:=HRT.out.2;unfold reach at this;omega
       have s5:=(Zc E7.out).1 5 _ rfl;have s6:=(Zc E7.out).1 6 _ rfl;have s1:=(Zc E7.out).1 1 _ rfl;have f4:=(Zc X7.out).1 4 _ rfl;go_upto_region 22 with fail
       go_cut [] (fun wx=>wx=wp3∧chk ru 1 (q1&&(q2&&(q3||q4)))=true)
       case first=>
        cases q1<;>cases q2<;>cases q3<;>cases q4;all_goals
         go_wp2_with fail;refine(ekind_any base b _ ru F wp3 a bk _ H7.out).mono ?_;rintro r w4 ⟨he,rfl⟩;generalize hc:chk ru 1 _=cc at he;have HC:=Zh hc;clear hc;cases cc
         ·obtain rfl:=he.f;clear he;go_wp2_with fail;exact⟨rfl,stE_no HS.out (by rw[HCO.out,QE.out,QA.out,HCK.out];exact and3_false HC.out) F7.out⟩
         ·obtain rfl:=he.t;clear he;go_wp2_with fail
          go_meet
          exact⟨rfl,HC.out⟩
       case rest=>
        obtain⟨rfl,hck⟩:=hcut;have QK:=Zh hck;clear hck;clear i1 i2 i3 i4 hq1 hq2 hq4 s5 s6 s1 f4;have HCB:=Zh (fun(h:(List.range bufs.length).all (a.bfOk ru bufs s.args)=true)=>show a.callOk ru f s.name s.ex s.args=true by rw[HCO.out,QE.out,QA.out,HCK.out,h,Bool.true_and,Bool.true_and,Bool.and_true];exact QK.out);have HCF:=Zh (fun(k:Nat) (hk:k<bufs.length) (h:a.bfOk ru bufs s.args k=false)=>show a.callOk ru f s.name s.ex s.args=false by rw[HCO.out,QE.out,QA.out,HCK.out,range_false hk h,Bool.and_false,Bool.and_false,Bool.and_false]);have s6:=(Zc E7.out).1 6 _ rfl;have hz7:=F7.out.size;go_wp2_with fail
        go_loopw [107] (fun i wr=>∃k:Nat,i= .int .i64 k∧k≤bufs.length∧k≤s.args.length∧Fr Non wc wr∧∀j,j<k→a.bfOk ru bufs s.args j=true) (fun i _=>bufs.length-(intOf i).toNat)
        case atStart=>exact⟨0,rfl,by omega,by omega,Zf _,fun j hj=>by omega⟩
        case round=>
         obtain⟨k,rfl,hk,hka,hfr,hno⟩:=hrel;have HNO:=Zh hno;clear hno;by_cases hlt:k<bufs.length
         ·obtain⟨g,cc,hs,z0,z1,z2,z3⟩:=pas_at (ownsRow_frA RB7.out hfr) k hlt;obtain⟨rfl,rfl⟩:N6=some ⟨g,0,none⟩∧k6=cc:=by cases hs;exact⟨rfl,rfl⟩
          clear hs;obtain⟨x,hx⟩:∃x,bufs.getD k Pa.zero=x:=⟨_,rfl⟩;rw[hx] at z0 z1 z2 z3;have HX:=Zh hx;clear hx;obtain⟨xmt,hxm⟩:∃v,x.mt=v:=⟨_,rfl⟩;obtain⟨xsec,hxs⟩:∃v,x.sec=v:=⟨_,rfl⟩;rw[hxs] at z2;rw[hxm] at z3;have HXM:=Zh hxm;clear hxm;have HXS:=Zh hxs;clear hxs;obtain⟨W8,HW8⟩:∃W8,W8=wr.alloc (.cells #[.string x.name,.bool x.buf,.bool xsec,.bool xmt] 56):=⟨_,rfl⟩;have hf8:Fr Non wr W8:=by rw[HW8];exact(Zf _).alloc _
          have Y8:=Zh (show W8.heap[wr.heap.size]? =some (.cells #[.string x.name,.bool x.buf,.bool xsec,.bool xmt] 56 (0,0)) by rw[HW8];exact blk_new _ _ _);have hfw:=hfr.trans hf8;have H8:=Zh (H7.out.stay hfw);have E8:=Zh (Zb E7.out hfw (non _));have D8:=Zh (D7.out.fr hfw fun _ _=>non _);have T8:=Zh (HTM.out.fr hfw (non _));have F8:=Zh hfw;clear hfw hf8 hfr s6;have s6:=(Zc E8.out).1 6 _ rfl;go_upto_region 26 with fail;rw[←HW8];clear HW8 z0 z1 z2 z3;by_cases hke:k=s.args.length
          ·have hd0:decide ((k:Int)=(s.args.length:Int))=true:=decide_eq_true (by omega);have hd1:((k:Int)==(s.args.length:Int))=true:=by simp;omega
           have hd2:(k==s.args.length)=true:=by simp;omega
           have hall:(List.range bufs.length).all (a.bfOk ru bufs s.args)=true:=range_true fun j hj=>by
            by_cases hjk:j<k
            ·exact HNO.out j hjk
            ·rw[Ev.bfOk,decide_eq_true (by omega),Bool.true_or]
           have HOK:=Zh (HCB.out hall);clear hall;have X8:=Zh (Zb X7.out F8.out (non _));have F9:=Zh (F7.out.trans F8.out);have f3:=(Zc X8.out).1 3 _ rfl;have s1:=(Zc E8.out).1 1 _ rfl;cases hem:emp s.name with
           |true=>
            have hem':=hem;rw[←toemp] at hem';have hem2:(!s.name.toList.isEmpty)=false:=by rw[hem'];rfl
            have HEM:=Zh hem;clear hem;go_wp2_with fail
            go_end0
            exact stE_yes HS.out HOK.out F9.out.non (by rw[if_pos HEM.out];exact H8.out) (.inl rfl)
           |false=>
            have hem':=hem;rw[←toemp] at hem';have hem2:(!s.name.toList.isEmpty)=true:=by rw[hem'];rfl
            have HEM:=Zh hem;clear hem;go_wp2_with fail;refine(egive_any base b _ ru F W8 a bk s.name (Nm.num f.sec false) H8.out).mono ?_;rintro r wg ⟨rfl,hf,h⟩;have HG:=Zh h;have FG:=Zh (F9.out.non.trans (hf.mono (T:=ES b bk) fun _ _ h=>.inr h));clear h hf;go_wp2_with fail
            go_end0
            exact stE_yes HS.out HOK.out FG.out (by rw[if_neg (by rw[HEM.out];decide)];exact HG.out) (.inl rfl)
          ·have hka2:k<s.args.length:=by omega
           have hd0:decide ((k:Int)=(s.args.length:Int))=false:=decide_eq_false (by omega);have hd1:((k:Int)==(s.args.length:Int))=false:=by simp;omega
           have hd2:(k==s.args.length)=false:=by simp;omega
           obtain⟨ag,ao,hA2,hd,e0⟩:=at_str D8.out.args.2.2 k hka2;subst hA2;obtain⟨u,hu⟩:∃u,s.args[k]=u:=⟨_,rfl⟩;rw[hu] at e0;have hgu:s.args.getD k nob=u:=by rw[List.getD_eq_getElem?_getD,List.getElem?_eq_getElem hka2,Option.getD_some];exact hu
           obtain⟨y,hy⟩:∃y,a.g u=y:=⟨_,rfl⟩;have hbf:a.bfOk ru bufs s.args k=(chk ru 1 (y.mt|| !xmt)&&(chk ru 2 (y.sec==xsec)&&chk ru 3 (!xmt||(y.lent==0&&timesM s.args u==1)))):=by
            rw[Ev.bfOk,decide_eq_false (by omega),Bool.false_or,HX.out,HXM.out,HXS.out,hgu,hy]
           obtain⟨tm,htm⟩:∃tm,timesM s.args u=tm:=⟨_,rfl⟩;rw[htm] at hbf;have HBF:=Zh hbf;have hl0:=(H8.out.stay (Zf W8).drew).look u;have hl1:=fun o=>(H8.out.stay (((Zf W8).alloc o).drew)).look u;rw[hy] at hl0;simp only[hy] at hl1;have htl:=fun w' (hf:Fr Non W8 w')=>(T8.out.fr hf (non _)).look u;rw[htm] at htl;have HTL:=Zh htl;clear hbf hgu hu htm hy htl hd;unfold Nm.v at hl0 hl1;have b5:=(Zc H8.out.blk).1 5 _ rfl;have hlt6:b<W8.heap.size:=blk_lt H8.out.blk;have hlt7:w.heap.size<W8.heap.size:=blk_lt E8.out;have hlt8:ag<W8.heap.size:=World.block_lt_of_cell? _ _ e0;go_upto_region 27 with fail
           go_cut [16] (fun v6 wx=>∃bn,v6= .pointer (some ⟨bn,0,none⟩)∧wx.heap[bn]? =some (.cells #[.bool y.buf,.bool y.sec,.bool y.mt,.bool y.own,.bool y.set,.bool y.gone,.int .i64 y.lent,.int .i64 y.loops] 104 (0,0))∧Fr Non W8 wx)
           case first=>
            go_region
            all_goals
             go_wp2_with fail
             go_meet
             exact⟨_,rfl,blk_new _ _ _,((Zf _).alloc _).drew⟩
           case rest=>
            obtain⟨bn,rfl,hyb,hf9⟩:=hcut;obtain⟨w9,rfl⟩:∃w9:World,w9=wc:=⟨_,rfl⟩;obtain⟨ymt,hym⟩:∃v,y.mt=v:=⟨_,rfl⟩;obtain⟨ysec,hys⟩:∃v,y.sec=v:=⟨_,rfl⟩;obtain⟨q5,hq5⟩:∃v,(y.lent==0)=v:=⟨_,rfl⟩;obtain⟨q6,hq6⟩:∃v,(tm==1)=v:=⟨_,rfl⟩;have i6:((tm:Int)==1)=q6:=by rw[←hq6,Bool.eq_iff_iff];simp;omega
            have HBF:=Zh (show a.bfOk ru bufs s.args k=(chk ru 1 (ymt|| !xmt)&&(chk ru 2 (ysec==xsec)&&chk ru 3 (!xmt||(q5&&q6)))) by rw[HBF.out,hym,hys,hq5,hq6]);rw[hym,hys] at hyb;have H9:=Zh (H8.out.stay hf9);have P9:=Zh (Zb Y8.out hf9 (non _));have E9:=Zh (Zb E8.out hf9 (non _));have D9:=Zh (D8.out.fr hf9 fun _ _=>non _);have e0:=hf9.cell' e0 (non _);have htl:=HTL.out w9 hf9;have F9:=Zh (F8.out.trans hf9);have FF9:=Zh (F7.out.trans F9.out);have YB:=Zh hyb;clear hyb hf9 hym hys hq6 hl0 hl1 b5 s6;have HQ5:=Zh hq5;clear hq5;have y2:=(Zc YB.out).1 2 _ rfl;have p3:=(Zc P9.out).1 3 _ rfl;go_upto_region 28 with fail
            go_cut [] (fun wx=>wx=w9∧chk ru 1 (ymt|| !xmt)=true)
            case first=>
             cases ymt<;>cases xmt;all_goals
              go_wp2_with fail;refine(ekind_any base b _ ru F w9 a bk _ H9.out).mono ?_;rintro r w4 ⟨he,rfl⟩;generalize hc:chk ru 1 _=cc at he;have HC:=Zh hc;clear hc;cases cc
              ·obtain rfl:=he.f;clear he;go_wp2_with fail;exact⟨rfl,stE_no HS.out (HCF.out k hlt (by rw[HBF.out];exact and_f1 HC.out)) FF9.out⟩
              ·obtain rfl:=he.t;clear he;go_wp2_with fail
               go_meet
               exact⟨rfl,HC.out⟩
            case rest=>
             obtain⟨rfl,hck⟩:=hcut;have Q1:=Zh hck;clear hck y2 p3;obtain⟨wa,rfl⟩:∃wa:World,wa=wc:=⟨_,rfl⟩;have y1:=(Zc YB.out).1 1 _ rfl;have p2:=(Zc P9.out).1 2 _ rfl;go_upto_region 29 with fail
             go_cut [] (fun wx=>wx=wa∧chk ru 2 (ysec==xsec)=true)
             case first=>
              cases ysec<;>cases xsec;all_goals
               go_wp2_with fail;refine(eclear_any base b _ ru F wa a bk _ H9.out).mono ?_;rintro r w4 ⟨he,rfl⟩;generalize hc:chk ru 2 _=cc at he;have HC:=Zh hc;clear hc;cases cc
               ·obtain rfl:=he.f;clear he;go_wp2_with fail;exact⟨rfl,stE_no HS.out (HCF.out k hlt (by rw[HBF.out,Q1.out];exact and_f2 HC.out)) FF9.out⟩
               ·obtain rfl:=he.t;clear he;go_wp2_with fail
                go_meet
                exact⟨rfl,HC.out⟩
             case rest=>
              obtain⟨rfl,hck⟩:=hcut;have Q2:=Zh hck;clear hck y1 p2;obtain⟨wb,rfl⟩:∃wb:World,wb=wc:=⟨_,rfl⟩;have s6:=(Zc E9.out).1 6 _ rfl;have y6:=(Zc YB.out).1 6 _ rfl;have p3:=(Zc P9.out).1 3 _ rfl;have i5:=HQ5.out;cases xmt<;>cases q5<;>cases q6;all_goals
               go_wp2_with fail;refine(efree_any base b _ ru F wb a bk _ H9.out).mono ?_;rintro r w4 ⟨he,rfl⟩;generalize hc:chk ru 3 _=cc at he;have HC:=Zh hc;clear hc;cases cc
               ·obtain rfl:=he.f;clear he;go_wp2_with fail;exact⟨rfl,stE_no HS.out (HCF.out k hlt (by rw[HBF.out,Q1.out,Q2.out];exact and_f3 HC.out)) FF9.out⟩
               ·obtain rfl:=he.t;clear he;go_wp2_with fail;go_roundw
                case rel=>exact⟨k+1,by go_num,by omega,by omega,F9.out,till HNO.out (by rw[HBF.out,Q1.out,Q2.out];exact and_t3 HC.out)⟩
                case measure=>simp[intOf];omega
         ·have hke:k=bufs.length:=by omega
          subst hke;have HOK:=Zh (HCB.out (range_true HNO.out));have H8:=Zh (H7.out.stay hfr);have E8:=Zh (Zb E7.out hfr (non _));have X8:=Zh (Zb X7.out hfr (non _));have F9:=Zh (F7.out.trans hfr);clear hfr s6;have f3:=(Zc X8.out).1 3 _ rfl;have s1:=(Zc E8.out).1 1 _ rfl;cases hem:emp s.name with
          |true=>
           have hem':=hem;rw[←toemp] at hem';have hem2:(!s.name.toList.isEmpty)=false:=by rw[hem'];rfl
           have HEM:=Zh hem;clear hem;go_wp2_with fail
           go_end0
           exact stE_yes HS.out HOK.out F9.out.non (by rw[if_pos HEM.out];exact H8.out) (.inl rfl)
          |false=>
           have hem':=hem;rw[←toemp] at hem';have hem2:(!s.name.toList.isEmpty)=true:=by rw[hem'];rfl
           have HEM:=Zh hem;clear hem;go_wp2_with fail;refine(egive_any base b _ ru F wr a bk s.name (Nm.num f.sec false) H8.out).mono ?_;rintro r wg ⟨rfl,hf,h⟩;have HG:=Zh h;have FG:=Zh (F9.out.non.trans (hf.mono (T:=ES b bk) fun _ _ h=>.inr h));clear h hf;go_wp2_with fail
           go_end0
           exact stE_yes HS.out HOK.out FG.out (by rw[if_neg (by rw[HEM.out];decide)];exact HG.out) (.inl rfl)
theorem emall (base b:Nat) (ok:Nat→Prop) (PA:Option Addr) (pc:Nat) (P:List Fu) (F:Nat) (ru:Int):∀N,EStC base b ok PA pc P F ru N∧EBlC base b ok PA pc P F ru N
 |0=>by
  have h0:EStC base b ok PA pc P F ru 0:=by
   intro s d A1 A2 A3 A4 c1 c2 c3 c4 w a bk hN;exfalso;have:=St.size_eq s;omega
  exact⟨h0,eblock_of base b ok PA pc P F ru 0 h0⟩
 |N+1=>by
  have BK:=(emall base b ok PA pc P F ru N).2;have h1:EStC base b ok PA pc P F ru (N+1):=by
   intro s d A1 A2 A3 A4 c1 c2 c3 c4 w a bk hN hok hrd hn0 hn1 hl0 hl1 h hP;have FF:=form_facts (sc_form s d hok);have hk1:=FF.k1;have hk12:=FF.k12;have hPl:P.length≤140737488355328:=by have:=hP.hc;unfold reach at this;omega
   have hF:=hP.hF;clear FF;unfold mK;by_cases k1:s.kind.toNat=1
   ·rw[if_pos k1];exact elet_any base b ok PA pc P F ru s d A1 A2 A3 A4 c1 c2 c3 c4 w a bk k1 hok hrd h
   rw[if_neg k1];by_cases k2:s.kind.toNat=2
   ·rw[if_pos k2];exact eset_any base b ok PA pc P F ru s d A1 A2 A3 A4 c1 c2 c3 c4 w a bk k2 hok hrd h
   rw[if_neg k2];by_cases k3:s.kind.toNat=3
   ·rw[if_pos k3];exact ebufst_any base b ok PA pc P F ru s d A1 A2 A3 A4 c1 c2 c3 c4 w a bk k3 hok hrd h
   rw[if_neg k3];by_cases k4:s.kind.toNat=4
   ·rw[if_pos k4];exact eput_any base b ok PA pc P F ru s d A1 A2 A3 A4 c1 c2 c3 c4 w a bk k4 hok hrd h
   rw[if_neg k4];by_cases k5:s.kind.toNat=5
   ·rw[if_pos k5];exact eeither_of base b ok PA pc P F ru N BK s d A1 A2 A3 A4 c1 c2 c3 c4 w a bk k5 hN hok hrd hn0 hn1 hl0 hl1 h hP
   rw[if_neg k5];by_cases k6:s.kind.toNat=6
   ·rw[if_pos k6];exact eloop_of base b ok PA pc P F ru N BK s d A1 A2 A3 A4 c1 c2 c3 c4 w a bk (.inl k6) hN hok hrd hn0 hn1 hl0 hl1 h hP
   rw[if_neg k6];by_cases k7:s.kind.toNat=7
   ·rw[if_pos k7];exact eloop_of base b ok PA pc P F ru N BK s d A1 A2 A3 A4 c1 c2 c3 c4 w a bk (.inr k7) hN hok hrd hn0 hn1 hl0 hl1 h hP
   rw[if_neg k7];by_cases k8:s.kind.toNat=8
   ·rw[if_pos k8];exact elend_of base b ok PA pc P F ru N BK s d A1 A2 A3 A4 c1 c2 c3 c4 w a bk k8 hN hok hrd hn0 hn1 hl0 hl1 h hP
   rw[if_neg k8];by_cases k9:s.kind.toNat=9
   ·rw[if_pos k9];exact emove_any base b ok PA pc P F ru s d A1 A2 A3 A4 c1 c2 c3 c4 w a bk k9 hok hrd h
   rw[if_neg k9];by_cases k10:s.kind.toNat=10
   ·rw[if_pos k10];exact eopen_any base b ok PA pc P F ru s d A1 A2 A3 A4 c1 c2 c3 c4 w a bk k10 hok hrd h
   rw[if_neg k10];by_cases k11:s.kind.toNat=11
   ·rw[if_pos k11];exact ecall_any base b ok PA pc P F ru s d A1 A2 A3 A4 c1 c2 c3 c4 w a bk k11 hok hrd h hP
   rw[if_neg k11];exact eseal_any base b ok PA pc P F ru s A1 A2 A3 A4 c1 c2 c3 c4 w a bk (by omega) h hF hPl
  exact⟨h1,eblock_of base b ok PA pc P F ru (N+1) h1⟩
theorem echeck_catch (b:Nat) (old:Value) (T:TypeId) (x y:Int) (w:World) (hb:w.heap[b]? =some (.cells #[old] T (0,0))):
  CallsD Tryz.prog 63 #[.pointer (some ⟨b,0,none⟩)] (.panicking [{v:=faultV x y,recovered:=false}]) w fun e u' w'=>
   e= .returned (.tuple #[])∧u'= .panicking [{v:=faultV x y,recovered:=true}]∧w'.heap[b]? =some (.cells #[faultV x y] T (0,0))∧Fr (fun k=>k=b) w w':=by
 have hta:∀w:World,(Instr.typeAssert (.iface 34 (.agg #[.int .i64 x,.int .i64 y])) 20 34 true).run Tryz.prog w= .ok (.tuple #[.agg #[.int .i64 x,.int .i64 y],.bool true]) w:=fun w=>by kernel_rfl
 have hmi:∀w:World,(Instr.makeInterface 34 (.agg #[.int .i64 x,.int .i64 y])).run Tryz.prog w= .ok (.iface 34 (.agg #[.int .i64 x,.int .i64 y])) w:=fun w=>by kernel_rfl
 have hf1:=(Fr.refl (fun k=>k=b) w).alloc (.cells #[.int .i64 x,.int .i64 y] 34);have hb1:=Zb hb ((Zf w).alloc (.cells #[.int .i64 x,.int .i64 y] 34)) (non _);have hb2:=blk_set hb1 0 (faultV x y);have hf3:=hf1.setCell ⟨b,0,none⟩ (faultV x y) (.inl rfl);have c1:=(Zc hb1).1 0 _ rfl;have z1:=(Zc hb1).2 0;refine callsD_of_wpS Tryz.func63 rfl fun c₀ cs hu=>?_;apply wpS_seq;apply wpS_region;unfold faultV at*;simp[wpOpsS,go_sem,recoverD,hu,Tryz.ntmps63,Exit.thenS];refine wpS_of_wp ?_;go_wp2_with fail;refine⟨rfl,_,rfl,_,by simp[results,Tryz.results63,go_sem],rfl,rfl,?_,?_⟩
 ·simpa using hb2
 ·exact hf3
theorem echeck_idle (b:Nat) (w:World):
  CallsD Tryz.prog 63 #[.pointer (some ⟨b,0,none⟩)] .returning w fun e u' w'=>e= .returned (.tuple #[])∧u'= .returning∧w=w':=by
 refine callsD_of_wpS Tryz.func63 rfl fun c₀ cs hu=>?_;apply wpS_seq;apply wpS_region;simp[wpOpsS,go_sem,recoverD,hu,Tryz.ntmps63,Exit.thenS];refine wpS_of_wp ?_;go_wp2_with fail;refine⟨rfl,_,?_,_,by simp[results,Tryz.results63,go_sem],rfl,rfl,rfl⟩;rw[←hu]
end Go.Proofs.YtpkpgmnbheenbaaGreatDoor
