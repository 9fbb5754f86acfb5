/- Contracts and laws, Mg04 -/
import Derived.Test.YtpkpgmnbheenbaaGreatDoorMg01
import Derived.Test.YtpkpgmnbheenbaaGreatDoorMg02
import Derived.Test.YtpkpgmnbheenbaaGreatDoorMg03
import Derived.Deep.DeepCutAuto
import Derived.Outline
import Derived.Deep.CutBlock
namespace Go.Proofs.YtpkpgmnbheenbaaGreatDoor
open Go.RowKit
set_option linter.unusedVariables false
set_option linter.unusedSimpArgs false
set_option maxHeartbeats 8000000
set_option maxRecDepth 100000
abbrev stV (s:St) (A1 A2 A3 A4:Option Addr) (c1 c2 c3 c4:Nat):Value:=.agg #[vu8 s.kind,.string s.name,.string s.frm,.bool s.sec,.bool s.mt,.slice A1 s.ex.length c1,.slice A2 s.args.length c2,.slice A3 s.body.length c3,.slice A4 s.els.length c4]
def StR (base b:Nat) (PV:Value) (w:World) (bk bg:Nat) (r:Except (Int×Int) (Sc×List ByteArray)) (e:Ending) (w':World):Prop:=match r with
 | .error x=>e= .panicked [{v:=faultV x.1 x.2,recovered:=false}]∧Fr (SS b bk bg) w w'
 | .ok (a1,aw)=>∃v,e= .returned v∧AwL b w.heap.size w' v aw∧Fr (SS b bk bg) w w'∧ScAt base b PV w' a1 bk bg
def BlR (base b:Nat) (PV:Value) (w:World) (bk bg:Nat) (r:Except (Int×Int) Sc) (e:Ending) (w':World):Prop:=match r with
 | .error x=>e= .panicked [{v:=faultV x.1 x.2,recovered:=false}]∧Fr (SS b bk bg) w w'
 | .ok a1=>e= .returned (.tuple #[])∧Fr (SS b bk bg) w w'∧ScAt base b PV w' a1 bk bg
structure StRd (ok:Nat→Prop) (w:World) (s:St) (A1 A2 A3 A4:Option Addr) (c1 c2 c3 c4:Nat):Prop where
 ex:s.ex.length≤c1∧s.ex.length*64≤reach∧RdRows ok w 5 A1 0 (Ex.ds s.ex)
 args:s.args.length≤c2∧s.args.length*16≤reach∧RdRows ok w 1 A2 0 (s.args.map strD)
 body:s.body.length≤c3∧s.body.length*144≤reach∧RdRows ok w 9 A3 0 (St.ds s.body)
 els:s.els.length≤c4∧s.els.length*144≤reach∧RdRows ok w 9 A4 0 (St.ds s.els)
theorem StRd.fr {ok:Nat→Prop} {w w':World} {s:St} {A1 A2 A3 A4:Option Addr} {c1 c2 c3 c4:Nat} {S:Nat→Prop} (h:StRd ok w s A1 A2 A3 A4 c1 c2 c3 c4) (hf:Fr S w w') (hs:∀q,ok q→¬S q):StRd ok w' s A1 A2 A3 A4 c1 c2 c3 c4:=
 ⟨⟨h.ex.1,h.ex.2.1,h.ex.2.2.fr hf hs fun _ h=>h⟩,⟨h.args.1,h.args.2.1,h.args.2.2.fr hf hs fun _ h=>h⟩,⟨h.body.1,h.body.2.1,h.body.2.2.fr hf hs fun _ h=>h⟩,⟨h.els.1,h.els.2.1,h.els.2.2.fr hf hs fun _ h=>h⟩⟩
structure ScP (base:Nat) (ok:Nat→Prop) (PA:Option Addr) (pc:Nat) (P:List Fu) (F:Nat) (w:World):Prop where
 rows:RdRows ok w 5 PA 0 (P.map Fu.d)
 hc:P.length*96≤reach
 hF:F<P.length
 hpc:P.length≤pc
 hok:∀q,ok q→q<base
theorem ScP.fr {base:Nat} {ok:Nat→Prop} {PA:Option Addr} {pc:Nat} {P:List Fu} {F:Nat} {w w':World} {S:Nat→Prop} (h:ScP base ok PA pc P F w) (hf:Fr S w w') (hs:∀q,ok q→¬S q):ScP base ok PA pc P F w':=
 ⟨h.rows.fr hf hs fun _ h=>h,h.hc,h.hF,h.hpc,h.hok⟩
def BlC (base b bk bg:Nat) (ok:Nat→Prop) (PA:Option Addr) (pc:Nat) (P:List Fu) (F:Nat) (N:Nat):Prop:=
 ∀(l:List St) (d:Nat) (A:Option Addr) (c:Nat) (w:World) (a:Sc),St.sizes l≤N→St.oks l d=true→RdRows ok w 9 A 0 (St.ds l)→l.length*144≤reach→0≤a.n→a.n+St.sizes l≤1099511627776→
  ScAt base b (.slice PA P.length pc) w a bk bg→ScP base ok PA pc P F w→
  Calls Tryz.prog 119 #[.pointer (some ⟨b,0,none⟩),.slice A l.length c,.int .i64 F] w (BlR base b (.slice PA P.length pc) w bk bg (scDels (scStmts P F l a [])))
def StC (base b bk bg:Nat) (ok:Nat→Prop) (PA:Option Addr) (pc:Nat) (P:List Fu) (F:Nat) (N:Nat):Prop:=
 ∀(s:St) (d:Nat) (A1 A2 A3 A4:Option Addr) (c1 c2 c3 c4:Nat) (w:World) (a:Sc),s.size≤N→St.ok s d=true→StRd ok w s A1 A2 A3 A4 c1 c2 c3 c4→0≤a.n→a.n+s.size≤1099511627777→
  ScAt base b (.slice PA P.length pc) w a bk bg→ScP base ok PA pc P F w→
  Calls Tryz.prog 83 #[.pointer (some ⟨b,0,none⟩),stV s A1 A2 A3 A4 c1 c2 c3 c4,.int .i64 F] w (StR base b (.slice PA P.length pc) w bk bg (scStmt P F s a))
theorem sc_form (s:St) (d:Nat) (h:St.ok s d=true):formM (.mk s.kind s.name s.frm s.sec s.mt s.ex s.args s.body s.els)=true:=by
 rw[St.ok_eq] at h;simp only[Bool.and_eq_true] at h;obtain⟨k,nm,fr,sec,mt,ex,args,body,els⟩:=s;exact h.1.1.2
def scRest (P:List Fu) (F:Nat) (k:UInt8) (nm:ByteArray) (body els:List St) (a:Sc):Except (Int×Int) (Sc×List ByteArray):=match a.gives k nm with
 | .error x=>.error x
 | .ok (a1,aw)=>match scDels (scStmts P F body a1 []) with
   | .error x=>.error x
   | .ok a2=>match scDels (scStmts P F els a2 []) with
     | .error x=>.error x
     | .ok a3=>if k.toNat==7||k.toNat==8 then .ok (a3.del nm,[]) else .ok (a3,aw)
theorem sc_mk (P:List Fu) (F:Nat) (k:UInt8) (nm fr:ByteArray) (sec mt:Bool) (ex:List Ex) (args:List ByteArray) (body els:List St) (a:Sc):scStmt P F (.mk k nm fr sec mt ex args body els) a=if !scHead P F (inM a.kn) k nm fr ex args then .error (a.n,3) else scRest P F k nm body els a:=by
 unfold scStmt scRest;cases scHead P F (inM a.kn) k nm fr ex args with
 |false=>rfl
 |true=>
  simp only[Bool.not_true,Bool.false_eq_true,if_false];cases a.gives k nm with
  |error x=>rfl
  |ok p=>
   obtain⟨a1,aw⟩:=p;simp only;cases scStmts P F body a1 [] with
   |error x=>rfl
   |ok p=>
    obtain⟨a2,aw2⟩:=p;simp only[scDels];cases scStmts P F els (a2.dels aw2) [] with
    |error x=>rfl
    |ok p=>rfl
theorem sc_eq (P:List Fu) (F:Nat) (s:St) (a:Sc):scStmt P F s a=if !scHead P F (inM a.kn) s.kind s.name s.frm s.ex s.args then .error (a.n,3) else scRest P F s.kind s.name s.body s.els a:=by
 obtain⟨k,nm,fr,sec,mt,ex,args,body,els⟩:=s;exact sc_mk P F k nm fr sec mt ex args body els a
theorem sc_err1 (P:List Fu) (F:Nat) (s:St) (a:Sc) (h:scHead P F (inM a.kn) s.kind s.name s.frm s.ex s.args=false):scStmt P F s a= .error (a.n,3):=by
 rw[sc_eq,h];rfl
theorem sc_ok1 (P:List Fu) (F:Nat) (s:St) (a:Sc) (h:scHead P F (inM a.kn) s.kind s.name s.frm s.ex s.args=true):scStmt P F s a=scRest P F s.kind s.name s.body s.els a:=by
 rw[sc_eq,h];rfl
theorem rest_24 (P:List Fu) (F:Nat) (k:UInt8) (nm fr:ByteArray) (ex:List Ex) (args:List ByteArray) (body els:List St) (a:Sc) (hff:FormF k nm fr ex args body els) (h:k.toNat=2∨k.toNat=4):scRest P F k nm body els a= .ok (a,[]):=by
 obtain rfl:body=[]:=hff.body.resolve_right (by omega);obtain rfl:els=[]:=hff.els.resolve_right (by omega);have hg:a.gives k nm= .ok (a,[]):=by
  unfold Sc.gives;rw[if_pos];rcases h with h|h<;>simp[h]
 unfold scRest;rw[hg];simp only[scStmts,scDels,Sc.dels,List.foldl];rw[if_neg];rcases h with h|h<;>simp[h]
theorem gives_emp {a:Sc} {k:UInt8} {nm:ByteArray} (h:emp nm=true):a.gives k nm= .ok (a,[]):=by
 unfold Sc.gives;rw[if_pos];simp[h]
theorem gives_err {a:Sc} {k:UInt8} {nm:ByteArray} {x:Int×Int} (h:emp nm=false) (h2:k.toNat≠2) (h4:k.toNat≠4) (hg:a.give nm= .error x):a.gives k nm= .error x:=by
 unfold Sc.gives;rw[if_neg (by simp[h,h2,h4]),hg]
theorem gives_ok {a a1:Sc} {k:UInt8} {nm:ByteArray} (h:emp nm=false) (h2:k.toNat≠2) (h4:k.toNat≠4) (hg:a.give nm= .ok a1):a.gives k nm= .ok (a1,[nm]):=by
 unfold Sc.gives;rw[if_neg (by simp[h,h2,h4]),hg]
theorem rest_e1 {P:List Fu} {F:Nat} {k:UInt8} {nm:ByteArray} {body els:List St} {a:Sc} {x:Int×Int} (h:a.gives k nm= .error x):scRest P F k nm body els a= .error x:=by
 unfold scRest;rw[h]
theorem rest_e2 {P:List Fu} {F:Nat} {k:UInt8} {nm:ByteArray} {body els:List St} {a a1:Sc} {aw:List ByteArray} {x:Int×Int} (h:a.gives k nm= .ok (a1,aw)) (h2:scDels (scStmts P F body a1 [])= .error x):scRest P F k nm body els a= .error x:=by
 unfold scRest;rw[h];simp only;rw[h2]
theorem rest_e3 {P:List Fu} {F:Nat} {k:UInt8} {nm:ByteArray} {body els:List St} {a a1 a2:Sc} {aw:List ByteArray} {x:Int×Int} (h:a.gives k nm= .ok (a1,aw)) (h2:scDels (scStmts P F body a1 [])= .ok a2) (h3:scDels (scStmts P F els a2 [])= .error x):scRest P F k nm body els a= .error x:=by
 unfold scRest;rw[h];simp only;rw[h2];simp only;rw[h3]
theorem rest_ok {P:List Fu} {F:Nat} {k:UInt8} {nm:ByteArray} {body els:List St} {a a1 a2 a3:Sc} {aw:List ByteArray} (h:a.gives k nm= .ok (a1,aw)) (h2:scDels (scStmts P F body a1 [])= .ok a2) (h3:scDels (scStmts P F els a2 [])= .ok a3):
  scRest P F k nm body els a=if k.toNat==7||k.toNat==8 then .ok (a3.del nm,[]) else .ok (a3,aw):=by
 unfold scRest;rw[h];simp only;rw[h2];simp only;rw[h3]
theorem gives_n {a a1:Sc} {k:UInt8} {nm:ByteArray} {aw:List ByteArray} (h:a.gives k nm= .ok (a1,aw)):a1.n=a.n:=by
 unfold Sc.gives at h;split at h
 ·cases h;rfl
 ·unfold Sc.give at h;split at h
  ·cases h
  ·rename_i h9;split at h9
   ·cases h9
   ·cases h9;cases h;rfl
theorem dels_n {P:List Fu} {F:Nat} {l:List St} {a a1:Sc} (h:scDels (scStmts P F l a [])= .ok a1):a.n≤a1.n∧a1.n≤a.n+St.sizes l:=by
 cases h2:scStmts P F l a [] with
 |error x=>rw[h2] at h;cases h
 |ok p=>
  rw[h2] at h;obtain⟨a2,aw2⟩:=p;cases h;have:=scStmts_n P F l a a2 [] aw2 h2;rw[(dels_gi aw2 a2).2];exact⟨this.1,this.2.1⟩
theorem scstmt_of (base b bk bg:Nat) (ok:Nat→Prop) (PA:Option Addr) (pc:Nat) (P:List Fu) (F:Nat) (N:Nat) (IH:BlC base b bk bg ok PA pc P F N):StC base b bk bg ok PA pc P F (N+1):=by
 intro s d A1 A2 A3 A4 c1 c2 c3 c4 w a hN hok hrd hn0 hn1 h hP;obtain⟨W0,HW0⟩:∃W0,W0=w.alloc (.cells #[vu8 s.kind,.string s.name,.string s.frm,.bool s.sec,.bool s.mt,.slice A1 s.ex.length c1,.slice A2 s.args.length c2,.slice A3 s.body.length c3,.slice A4 s.els.length c4] 42):=⟨_,rfl⟩;have hbx:W0.heap[w.heap.size]? =some (.cells #[vu8 s.kind,.string s.name,.string s.frm,.bool s.sec,.bool s.mt,.slice A1 s.ex.length c1,.slice A2 s.args.length c2,.slice A3 s.body.length c3,.slice A4 s.els.length c4] 42 (0,0)):=by rw[HW0];exact blk_new _ _ _
 have hf0:Fr Non w W0:=by rw[HW0];exact(Zf w).alloc _
 have g5:=(Zc hbx).1 5 _ rfl;have HB0:=Zh hbx;clear hbx;have H0:=Zh (h.stay hf0);have H:=Zh h;clear h;have HRD:=Zh hrd;clear hrd;have HP:=Zh hP;clear hP;have HF0:=Zh hf0;clear hf0;go_enter Tryz.func83,Tryz.ntmps83;go_wp2_with fail;rw[←HW0];clear HW0;refine(scexprs_any (Ex.sizes s.ex+1) s.ex ok A1 c1 base b _ W0 a bk bg (by omega) (HRD.out.ex.2.2.fr HF0.out (fun _ _=>non _) fun _ h=>h) HRD.out.ex.2.1 H0.out).mono ?_;rintro e w1 ⟨he1,hf1⟩;cases hx1:Ex.askss (inM a.kn) s.ex with
 |false=>
  rw[hx1] at he1;obtain rfl:=he1.f;clear he1;have hF1:=Zh (HF0.out.trans hf1);clear hf1;have HR:=Zh (sc_err1 P F s a (by rw[scHead,hx1];rfl));clear hx1;go_wp2_with fail;refine⟨rfl,?_⟩;rw[HR.out];exact⟨rfl,hF1.out.non⟩
 |true=>
  rw[hx1] at he1;obtain rfl:=he1.t;clear he1;have HX1:=Zh hx1;clear hx1;have hb1:=Zb HB0.out hf1 (non _);have H1:=Zh (H0.out.stay hf1);have HF1:=Zh (HF0.out.trans hf1);clear hf1 g5;have g0:=(Zc hb1).1 0 _ rfl;have g1:=(Zc hb1).1 1 _ rfl;have g2:=(Zc hb1).1 2 _ rfl;have g6:=(Zc hb1).1 6 _ rfl;have HB1:=Zh hb1;clear hb1;have hbs:∀q,SS b bk bg q→q≠w.heap.size:=fun q hq e=>by have:=(H.out.lt q hq).2;omega
  have HBS:=Zh hbs;clear hbs;have hff:=form_facts (sc_form s d hok);have HFF:=Zh hff;have k1:=hff.k1;have k12:=hff.k12;rw[St.ok_eq] at hok;simp only[Bool.and_eq_true] at hok;have hsz:s.size=1+St.sizes s.body+St.sizes s.els:=St.size_eq s;have HSZ:=Zh hsz;clear hsz;have HOK:=Zh hok;clear hok hff;go_upto_block 0 with fail
  go_cut [6] (fun v6 wx=>v6= .slice none 0 0∧Fr Non w1 wx∧scHead P F (inM a.kn) s.kind s.name s.frm s.ex s.args=true∧s.kind.toNat≠2∧s.kind.toNat≠4)
  case first=>
   by_cases k24:s.kind.toNat=2∨s.kind.toNat=4
   ·have f2:((s.kind.toNat:Int)==2)=decide (s.kind.toNat=2):=by rw[Bool.eq_iff_iff];simp;omega
    have f4:((s.kind.toNat:Int)==4)=decide (s.kind.toNat=4):=by rw[Bool.eq_iff_iff];simp;omega
    have hh:scHead P F (inM a.kn) s.kind s.name s.frm s.ex s.args=inM a.kn s.name:=by
     rw[scHead,HX1.out];rcases k24 with h|h<;>simp[h]
    have HH:=Zh hh;clear hh;have K24:=Zh k24;rcases k24 with k2|k4
    ·rw[decide_eq_true k2] at f2;clear f4 k2;go_wp2_with fail;refine(scask_any base b _ w1 a bk bg s.name H1.out).mono ?_;rintro e w2 ⟨he1,hf2⟩;cases hx2:inM a.kn s.name with
     |false=>
      rw[hx2] at he1;obtain rfl:=he1.f;clear he1;have HR:=Zh (sc_err1 P F s a (by rw[HH.out];exact hx2));clear hx2;have HF2:=Zh (HF1.out.trans hf2);clear hf2;go_wp2_with fail;refine⟨rfl,?_⟩;rw[HR.out];exact⟨rfl,HF2.out.non⟩
     |true=>
      rw[hx2] at he1;obtain rfl:=he1.t;clear he1;have HF2:=Zh (HF1.out.trans hf2);have HS2:=Zh (H1.out.stay hf2);clear hf2;have HHT:=Zh (HH.out.trans hx2);clear hx2;have HR:=Zh ((sc_ok1 P F s a HHT.out).trans (rest_24 P F _ _ s.frm s.ex s.args _ _ a HFF.out K24.out));go_wp2_with fail;go_ret;rw[HR.out];exact⟨_,rfl,AwL.nil _ _ _,HF2.out.non,HS2.out⟩
    ·rw[decide_eq_true k4] at f4;rw[decide_eq_false (by omega)] at f2;clear k4;go_wp2_with fail;refine(scask_any base b _ w1 a bk bg s.name H1.out).mono ?_;rintro e w2 ⟨he1,hf2⟩;cases hx2:inM a.kn s.name with
     |false=>
      rw[hx2] at he1;obtain rfl:=he1.f;clear he1;have HR:=Zh (sc_err1 P F s a (by rw[HH.out];exact hx2));clear hx2;have HF2:=Zh (HF1.out.trans hf2);clear hf2;go_wp2_with fail;refine⟨rfl,?_⟩;rw[HR.out];exact⟨rfl,HF2.out.non⟩
     |true=>
      rw[hx2] at he1;obtain rfl:=he1.t;clear he1;have HF2:=Zh (HF1.out.trans hf2);have HS2:=Zh (H1.out.stay hf2);clear hf2;have HHT:=Zh (HH.out.trans hx2);clear hx2;have HR:=Zh ((sc_ok1 P F s a HHT.out).trans (rest_24 P F _ _ s.frm s.ex s.args _ _ a HFF.out K24.out));go_wp2_with fail;go_ret;rw[HR.out];exact⟨_,rfl,AwL.nil _ _ _,HF2.out.non,HS2.out⟩
   ·have f2:((s.kind.toNat:Int)==2)=false:=by simp;omega
    have f4:((s.kind.toNat:Int)==4)=false:=by simp;omega
    by_cases k89:s.kind.toNat=8∨s.kind.toNat=9
    ·have f8:((s.kind.toNat:Int)==8)=decide (s.kind.toNat=8):=by rw[Bool.eq_iff_iff];simp;omega
     have f9:((s.kind.toNat:Int)==9)=decide (s.kind.toNat=9):=by rw[Bool.eq_iff_iff];simp;omega
     have hh:scHead P F (inM a.kn) s.kind s.name s.frm s.ex s.args=inM a.kn s.frm:=by
      rw[scHead,HX1.out];rcases k89 with h|h<;>simp[h]
     have HH:=Zh hh;clear hh;have K24:=Zh k24;clear k24;rcases k89 with k8|k9
     ·rw[decide_eq_true k8] at f8;clear f9 k8;go_wp2_with fail;refine(scask_any base b _ w1 a bk bg s.frm H1.out).mono ?_;rintro e w2 ⟨he1,hf2⟩;cases hx2:inM a.kn s.frm with
      |false=>
       rw[hx2] at he1;obtain rfl:=he1.f;clear he1;have HR:=Zh (sc_err1 P F s a (by rw[HH.out];exact hx2));clear hx2;have HF2:=Zh (HF1.out.trans hf2);clear hf2;go_wp2_with fail;refine⟨rfl,?_⟩;rw[HR.out];exact⟨rfl,HF2.out.non⟩
      |true=>
       rw[hx2] at he1;obtain rfl:=he1.t;clear he1;have HG2:=Zh hf2;have HF2:=Zh (HF1.out.trans hf2);clear hf2;have HHT:=Zh (HH.out.trans hx2);clear hx2;go_wp2_with fail
       go_meet
       exact⟨rfl,HG2.out,HHT.out,fun h=>K24.out (.inl h),fun h=>K24.out (.inr h)⟩
     ·rw[decide_eq_true k9] at f9;rw[decide_eq_false (by omega)] at f8;clear k9;go_wp2_with fail;refine(scask_any base b _ w1 a bk bg s.frm H1.out).mono ?_;rintro e w2 ⟨he1,hf2⟩;cases hx2:inM a.kn s.frm with
      |false=>
       rw[hx2] at he1;obtain rfl:=he1.f;clear he1;have HR:=Zh (sc_err1 P F s a (by rw[HH.out];exact hx2));clear hx2;have HF2:=Zh (HF1.out.trans hf2);clear hf2;go_wp2_with fail;refine⟨rfl,?_⟩;rw[HR.out];exact⟨rfl,HF2.out.non⟩
      |true=>
       rw[hx2] at he1;obtain rfl:=he1.t;clear he1;have HG2:=Zh hf2;have HF2:=Zh (HF1.out.trans hf2);clear hf2;have HHT:=Zh (HH.out.trans hx2);clear hx2;go_wp2_with fail
       go_meet
       exact⟨rfl,HG2.out,HHT.out,fun h=>K24.out (.inl h),fun h=>K24.out (.inr h)⟩
    ·have f8:((s.kind.toNat:Int)==8)=false:=by simp;omega
     have f9:((s.kind.toNat:Int)==9)=false:=by simp;omega
     have K24:=Zh k24;clear k24;by_cases k11:s.kind.toNat=11
     ·have f11:((s.kind.toNat:Int)==11)=true:=by simp;omega
      have hh:scHead P F (inM a.kn) s.kind s.name s.frm s.ex s.args=(s.args.all (inM a.kn)&&(P.take F).any fun f=>sq f.name s.frm):=by
       rw[scHead,HX1.out];simp[k11]
      have HH:=Zh hh;clear hh k11 k89;have hal:s.args.length≤140737488355328:=by have:=HRD.out.args.2.1;unfold reach at this;omega
      go_wp2_with fail
      go_loopw [34] (fun i wr=>∃k:Nat,i= .int .i64 k∧k≤s.args.length∧Fr Non w1 wr∧∀j,j<k→∀hj:j<s.args.length,inM a.kn s.args[j]=true) (fun i _=>s.args.length-(intOf i).toNat)
      case atStart=>exact⟨0,rfl,by omega,Zf w1,fun j hj=>by omega⟩
      case round=>
       obtain⟨k,rfl,hk,hfr,hno⟩:=hrel;have HN:=Zh hno;clear hno;have HRF:=Zh hfr;clear hfr;have HSR:=Zh (H1.out.stay HRF.out);by_cases hlt:k<s.args.length
       ·obtain⟨g,o,e6,hd,e0⟩:=at_str (HRD.out.args.2.2.fr (HF1.out.trans HRF.out) (fun _ _=>non _) fun _ h=>h) k hlt;rw[e6] at g6;subst e6;generalize hx:s.args[k]=x at*;have HX:=Zh hx;clear hx;go_wp2_with fail;refine(scask_any base b _ wr a bk bg x HSR.out).mono ?_;rintro e w2 ⟨he1,hf2⟩;cases hx2:inM a.kn x with
        |false=>
         rw[hx2] at he1;obtain rfl:=he1.f;clear he1;have HR:=Zh (sc_err1 P F s a (by rw[HH.out,all_false_of k hlt (by rw[HX.out];exact hx2)];rfl));clear hx2;have HF2:=Zh ((HF1.out.trans HRF.out).trans hf2);clear hf2;go_wp2_with fail;refine⟨rfl,?_⟩;rw[HR.out];exact⟨rfl,HF2.out.non⟩
        |true=>
         rw[hx2] at he1;obtain rfl:=he1.t;clear he1;have HX2:=Zh hx2;clear hx2;go_wp2_with fail;go_roundw
         case rel=>exact⟨k+1,by go_num,by omega,HRF.out.trans hf2,till HN.out fun _=>by rw[HX.out];exact HX2.out⟩
         case measure=>simp[intOf];omega
       ·have hall:s.args.all (inM a.kn)=true:=all_true_of fun j hj=>HN.out j (by omega) hj;have HALL:=Zh hall;clear hall;have hPr:=HP.out.fr (HF1.out.trans HRF.out) (fun _ _=>non _);obtain⟨pg,po,A1',c1',A2',c2',A3',c3',hpa,_⟩:=at_fu hPr.rows 0 (by have:=hPr.hF;omega);have b0:=(Zc HSR.out.blk).1 0 _ rfl;have b1:=(Zc HSR.out.blk).1 1 _ rfl;have hF1:=hPr.hF;have hpc1:=hPr.hpc;have hPl:P.length≤140737488355328:=by have:=hPr.hc;unfold reach at this;omega
        have hFn:wr.cell? ⟨w.heap.size,2,none⟩=some (.string s.frm):=HRF.out.cell' g2 (non _);have hcall:=called_any P F w.heap.size (by omega) ok PA pc s.frm wr hPr.rows hPr.hc hFn;have HC:=Zh hcall;clear hcall;subst hpa;have hmf:∀(fn:Fn) (first cap:Array Value) (w:World),(Instr.makeFunc fn first cap).run Tryz.prog w= .ok (.func fn first cap) w:=fun _ _ _ _=>rfl;go_wp2_with fail;refine HC.out.mono ?_;rintro e w2 ⟨rfl,hf2⟩;have b1:=hf2.cell' b1 (non _);have HG2:=Zh (HRF.out.trans hf2);have HF2:=Zh ((HF1.out.trans HRF.out).trans hf2);clear hf2;generalize hq:((P.take F).any fun f=>sq f.name s.frm)=q;have HQ:=Zh hq;clear hq;cases q with
        |true=>
         go_wp2_with fail
         go_meet
         exact⟨rfl,HG2.out,by rw[HH.out,HALL.out,HQ.out];rfl,fun h=>K24.out (.inl h),fun h=>K24.out (.inr h)⟩
        |false=>
         have HR:=Zh (sc_err1 P F s a (by rw[HH.out,HALL.out,HQ.out];rfl));go_wp2_with fail;refine(scbad_any base b (.slice (some ⟨pg,po,none⟩) P.length pc) w2 a bk bg 3 b1).mono ?_;rintro e w' ⟨rfl,rfl⟩;unfold Sc.err faultP;go_wp2_with fail;refine⟨rfl,?_⟩;rw[HR.out];exact⟨rfl,HF2.out.non⟩
     ·have f11:((s.kind.toNat:Int)==11)=false:=by simp;omega
      have hh:scHead P F (inM a.kn) s.kind s.name s.frm s.ex s.args=true:=by
       have e2:s.kind.toNat≠2:=fun h=>K24.out (.inl h);have e4:s.kind.toNat≠4:=fun h=>K24.out (.inr h);rw[scHead,HX1.out];simp[k11,e2,e4];omega
      have HH:=Zh hh;clear hh k89;go_wp2_with fail
      go_meet
      exact⟨rfl,Zf w1,HH.out,fun h=>K24.out (.inl h),fun h=>K24.out (.inr h)⟩
  case rest=>
   obtain⟨rfl,hfc,hh,hk2,hk4⟩:=hcut;have HR1:=Zh (sc_ok1 P F s a hh);clear hh;clear g0 g1 g2 g6;have hb2:=Zb HB1.out hfc (non _);have g1:=(Zc hb2).1 1 _ rfl;have HB2:=Zh hb2;clear hb2;have H2:=Zh (H1.out.stay hfc);have HF2:=Zh (HF1.out.trans hfc);clear hfc;have hlt:=H.out.lt;have hoks:∀q,ok q→¬SS b bk bg q:=fun q hq h=>by have h1:=HP.out.hok q hq;have h2:=(hlt q h).1;omega
   have hfar:∀q,w.heap.size≤q→¬SS b bk bg q:=fun q hq h=>by have h2:=(hlt q h).2;omega
   have HOKS:=Zh hoks;clear hoks;have HFAR:=Zh hfar;clear hfar;have HLT:=Zh hlt;clear hlt;have hwlt:w.heap.size<wc.heap.size:=blk_lt HB2.out
   go_upto_if 56 with fail
   go_cut [6] (fun v6 wx=>∃a1 aw,a.gives s.kind s.name= .ok (a1,aw)∧AwL b w.heap.size wx v6 aw∧Fr (SS b bk bg) wc wx∧ScAt base b (.slice PA P.length pc) wx a1 bk bg)
   case first=>
    cases hem:emp s.name with
    |true=>
     have hem':=hem;rw[←toemp] at hem';have hem2:(!s.name.toList.isEmpty)=false:=by rw[hem'];rfl
     have HEM:=Zh hem;clear hem;rw[hem2];go_wp2_with fail
     go_meet
     exact⟨a,[],gives_emp HEM.out,AwL.nil _ _ _,Fr.refl _ _,H2.out⟩
    |false=>
     have hem':=hem;rw[←toemp] at hem';have hem2:(!s.name.toList.isEmpty)=true:=by rw[hem'];rfl
     have HEM:=Zh hem;clear hem;rw[hem2];go_wp2_with fail;refine(scgive_any base b _ wc a bk bg s.name H2.out).mono ?_;intro e w3 hgr;unfold GiveR at hgr;cases hgv:a.give s.name with
     |error x=>
      rw[hgv] at hgr;obtain⟨rfl,hf3⟩:=hgr;have HR:=Zh (HR1.out.trans (rest_e1 (gives_err HEM.out hk2 hk4 hgv)));clear hgv;have HF3:=Zh (HF2.out.trans hf3);clear hf3;unfold faultP;go_wp2_with fail;refine⟨rfl,?_⟩;rw[HR.out];exact⟨rfl,HF3.out.non⟩
     |ok a1=>
      rw[hgv] at hgr;obtain⟨v,pw,ps,rfl,haw,hp1,hp2,hf3,h3⟩:=hgr;have HG:=Zh (gives_ok HEM.out hk2 hk4 hgv);clear hgv;have hv:=haw.1;subst hv;have HAW:=Zh haw;clear haw;have H3:=Zh h3;clear h3;have hsz3:=hf3.size;have HF3:=Zh hf3;clear hf3;go_wp2_with (at_builtin;refine app_fn rfl _ _ rfl w.heap.size (.slice none 0 0) [] rfl (World.ownsRow_nil _ _ _ _) (some ⟨w3.heap.size,0,none⟩) 1 [.func (.func 116) #[] #[.pointer (some ⟨pw,0,none⟩),.pointer (some ⟨ps,0,none⟩)]] rfl ?qa1 ?qa2 ?qa3 ?qa4 ?qa5 ?qa6)
      case qa1=>exact fun j u hu=>⟨_,rfl,new_cells _ _ _ j u hu⟩
      case qa2=>intro u hu;rw[List.mem_singleton] at hu;subst hu;rfl
      case qa3=>simp
      case qa4=>simp
      case qa5=>simp;omega
      case qa6=>
       intro v6 w4 hown hf4
       try simp only[List.nil_append] at hown
       have hf34:Fr Non w3 w4:=((Zf w3).alloc _).trans (hf4.mono fun k _ h=>by cases h.2);have HAWL:=Zh (show AwL b w.heap.size w4 v6 [s.name] from⟨_,hown,rfl,fun i hi=>⟨_,pw,ps,by simp at hi;subst hi;rfl,by
        have e:([s.name]:List ByteArray)[i]=s.name:=by simp at hi;subst hi;rfl
        rw[e];exact HAW.out.fr hf34 (non _) (non _),by omega,by omega⟩⟩)
       have HF4:=Zh (HF3.out.trans hf34.non);have H4:=Zh (H3.out.stay hf34);clear hown hf4 hf34;go_wp2_with fail
       go_meet
       exact⟨a1,[s.name],HG.out,HAWL.out,HF4.out,H4.out⟩
   case rest=>
    obtain⟨a1,aw,hg,haw,hfr,h3⟩:=hcut;clear g1;have hn1':=gives_n hg;have HN1:=Zh hn1';clear hn1';have HG:=Zh hg;clear hg;have HF3:=Zh (HF2.out.non.trans hfr);have hb3:=Zb HB2.out hfr (HFAR.out _ (Nat.le_refl _));clear hfr;have g7:=(Zc hb3).1 7 _ rfl;have HB3:=Zh hb3;clear hb3;have HAW:=Zh haw;clear haw;have H3:=Zh h3;clear h3;have hna1:0≤a1.n:=by rw[HN1.out];exact hn0
    have hna2:a1.n+St.sizes s.body+St.sizes s.els≤1099511627776:=by rw[HN1.out];have:=HSZ.out;omega
    go_wp2_with fail;refine(IH s.body (d+1) A3 c3 wc a1 (by have:=HSZ.out;omega) HOK.out.1.2 (HRD.out.body.2.2.fr HF3.out HOKS.out fun _ h=>h) HRD.out.body.2.1 (by omega) (by have:=HSZ.out;omega) H3.out (HP.out.fr HF3.out HOKS.out)).mono ?_;intro e w4 hbr;cases hbd:scDels (scStmts P F s.body a1 []) with
    |error x=>
     rw[hbd] at hbr;obtain⟨rfl,hf4⟩:=hbr;have HR:=Zh (HR1.out.trans (rest_e2 HG.out hbd));clear hbd;have HF4:=Zh (HF3.out.trans hf4);clear hf4;go_wp2_with fail;refine⟨rfl,?_⟩;rw[HR.out];exact⟨rfl,HF4.out⟩
    |ok a2=>
     rw[hbd] at hbr;obtain⟨rfl,hf4,h4⟩:=hbr;have hd2:=dels_n hbd;have HBD:=Zh hbd;clear hbd;have hb4:=Zb HB3.out hf4 (HFAR.out _ (Nat.le_refl _));clear g7;have g8:=(Zc hb4).1 8 _ rfl;have HB4:=Zh hb4;clear hb4;have HF4:=Zh (HF3.out.trans hf4);have HAW4:=Zh (HAW.out.fr hf4 HFAR.out);clear hf4;have H4:=Zh h4;clear h4;go_wp2_with fail;refine(IH s.els (d+1) A4 c4 w4 a2 (by have:=HSZ.out;omega) HOK.out.2 (HRD.out.els.2.2.fr HF4.out HOKS.out fun _ h=>h) HRD.out.els.2.1 (by omega) (by have:=HSZ.out;omega) H4.out (HP.out.fr HF4.out HOKS.out)).mono ?_;intro e w5 hbr;cases hbe:scDels (scStmts P F s.els a2 []) with
     |error x=>
      rw[hbe] at hbr;obtain⟨rfl,hf5⟩:=hbr;have HR:=Zh (HR1.out.trans (rest_e3 HG.out HBD.out hbe));clear hbe;have HF5:=Zh (HF4.out.trans hf5);clear hf5;go_wp2_with fail;refine⟨rfl,?_⟩;rw[HR.out];exact⟨rfl,HF5.out⟩
     |ok a3=>
      rw[hbe] at hbr;obtain⟨rfl,hf5,h5⟩:=hbr;have HR:=Zh (HR1.out.trans (rest_ok HG.out HBD.out hbe));clear hbe;have hb5:=Zb HB4.out hf5 (HFAR.out _ (Nat.le_refl _));clear g8;have g0:=(Zc hb5).1 0 _ rfl;have HF5:=Zh (HF4.out.trans hf5);have HAW5:=Zh (HAW4.out.fr hf5 HFAR.out);clear hf5 hb5;have H5:=Zh h5;clear h5;by_cases k78:s.kind.toNat=7∨s.kind.toNat=8
      ·have f7:((s.kind.toNat:Int)==7)=decide (s.kind.toNat=7):=by rw[Bool.eq_iff_iff];simp;omega
       have f8:((s.kind.toNat:Int)==8)=decide (s.kind.toNat=8):=by rw[Bool.eq_iff_iff];simp;omega
       have hem:emp s.name=false:=by
        have:=emp_of_namedX (HFF.out.other (by omega)).2.2;rw[this,nName];rcases k78 with h|h<;>simp[h]
       have haw1:aw=[s.name]:=by
        have hgs:=HG.out;cases hgv:a.give s.name with
        |error x=>rw[gives_err hem hk2 hk4 hgv] at hgs;cases hgs
        |ok a9=>rw[gives_ok hem hk2 hk4 hgv] at hgs;cases hgs;rfl
       have hrr:(s.kind.toNat==7||s.kind.toNat==8)=true:=by rcases k78 with h|h<;>simp[h]
       have HRR:=Zh hrr;clear hrr hem;subst haw1;obtain⟨Aw,cw,hv6,hcw⟩:=HAW5.out.slice;subst hv6;obtain⟨g,pw,ps,rfl,y0,y1,y2⟩:=HAW5.out.at 0 (by simp);have Y1:=Zh y1;clear y1;have Y2:=Zh y2;clear y2;rcases k78 with k7|k8
       ·rw[decide_eq_true k7] at f7;clear f8 k7;go_wp2_with fail;refine(scaway_any base b pw ps _ w5 a3 bk bg s.name H5.out Y1.out (by simpa using Y2.out)).mono ?_;rintro e w6 ⟨rfl,hf6,h6⟩;have HF6:=Zh (HF5.out.trans (hf6.mono fun _ _ h=>.inr (.inl h)));clear hf6;have H6:=Zh h6;clear h6;go_wp2_with fail;go_ret;rw[HR.out,HRR.out];exact⟨_,rfl,AwL.nil _ _ _,HF6.out,H6.out⟩
       ·rw[decide_eq_true k8] at f8;rw[decide_eq_false (by omega)] at f7;clear k8;go_wp2_with fail;refine(scaway_any base b pw ps _ w5 a3 bk bg s.name H5.out Y1.out (by simpa using Y2.out)).mono ?_;rintro e w6 ⟨rfl,hf6,h6⟩;have HF6:=Zh (HF5.out.trans (hf6.mono fun _ _ h=>.inr (.inl h)));clear hf6;have H6:=Zh h6;clear h6;go_wp2_with fail;go_ret;rw[HR.out,HRR.out];exact⟨_,rfl,AwL.nil _ _ _,HF6.out,H6.out⟩
      ·have f7:((s.kind.toNat:Int)==7)=false:=by simp;omega
       have f8:((s.kind.toNat:Int)==8)=false:=by simp;omega
       have hrr:(s.kind.toNat==7||s.kind.toNat==8)=false:=by simp;omega
       have HRR:=Zh hrr;clear hrr k78;go_wp2_with fail;go_ret;rw[HR.out,HRR.out];exact⟨_,rfl,HAW5.out,HF5.out,H5.out⟩
theorem ScAt.setn {base b:Nat} {PV:Value} {w:World} {a:Sc} {bk bg:Nat} (h:ScAt base b PV w a bk bg) (m:Int):ScAt base b PV (w.setCell ⟨b,1,none⟩ (.int .i64 m)) ⟨a.kn,a.gi,m⟩ bk bg:=by
 have hf:Fr (fun k=>k=b) w (w.setCell ⟨b,1,none⟩ (.int .i64 m)):=(Fr.refl (fun k=>k=b) w).setCell _ _ (.inl rfl);have hn:=h.bk_ne;exact⟨blk_set h.blk 1 _,h.kn.fr hf hn.1,h.gi.fr hf hn.2,h.ne,h.hb,h.hk,h.hg⟩
theorem row_src {base:Nat} {e:TypeId} {w:World} {A:Option Addr} {c:Nat} {ys:List Value} (h:w.ownsRow base e 1 (.slice A ys.length c) ys.length ys):∀j u,ys[j]? =some u→∃ad,A=some ad∧w.cell? (ad.add j)=some u:=by
 intro j u hu;have hlt:=(List.getElem?_eq_some_iff.1 hu).1;obtain⟨g,rfl,_,hc⟩:=row_at h (by omega);exact⟨_,rfl,by rw[Addr.add_lit];simpa using(hc j u hu).1⟩
theorem dels_snoc (a:Sc) (l:List ByteArray) (x:ByteArray):a.dels (l++[x])=(a.dels l).del x:=by simp[Sc.dels]
theorem aw_one {b B:Nat} {w:World} {aw:List ByteArray} {vs:List Value} (h2:vs.length=aw.length) (h:∀i (h:i<aw.length),∃x pw ps,vs[i]? =some x∧AwayV b w x aw[i] pw ps∧B≤pw∧B≤ps):∀u∈vs,u.oneCell'=true:=by
 intro u hu;obtain⟨i,hi,rfl⟩:=List.mem_iff_getElem.1 hu;obtain⟨x,pw,ps,g1,g2,_⟩:=h i (by omega);rw[List.getElem?_eq_getElem hi] at g1;cases g1;rw[g2.1];rfl
theorem aw_append {b B B':Nat} {w:World} {aw aw2:List ByteArray} {vs ys:List Value} (hB:B≤B') (h2:vs.length=aw.length) (h3:∀i (h:i<aw.length),∃x pw ps,vs[i]? =some x∧AwayV b w x aw[i] pw ps∧B≤pw∧B≤ps)
  (q2:ys.length=aw2.length) (q3:∀i (h:i<aw2.length),∃x pw ps,ys[i]? =some x∧AwayV b w x aw2[i] pw ps∧B'≤pw∧B'≤ps):∀i (h:i<(aw++aw2).length),∃x pw ps,(vs++ys)[i]? =some x∧AwayV b w x (aw++aw2)[i] pw ps∧B≤pw∧B≤ps:=by
 intro i hi;by_cases hl:i<aw.length
 ·obtain⟨x,pw,ps,g1,g2,g3,g4⟩:=h3 i hl;refine⟨x,pw,ps,?_,?_,g3,g4⟩
  ·rw[List.getElem?_append_left (by omega)];exact g1
  ·rw[List.getElem_append_left hl];exact g2
 ·rw[List.length_append] at hi;obtain⟨x,pw,ps,g1,g2,g3,g4⟩:=q3 (i-aw.length) (by omega);refine⟨x,pw,ps,?_,?_,Nat.le_trans hB g3,Nat.le_trans hB g4⟩
  ·rw[List.getElem?_append_right (by omega),h2];exact g1
  ·rw[List.getElem_append_right (by omega)];exact g2
theorem oks_at {l:List St} {d:Nat} (h:St.oks l d=true) (k:Nat) (hk:k<l.length):St.ok l[k] d=true:=by
 induction l generalizing k with
 |nil=>simp at hk
 |cons x l ih=>
  simp only[St.oks,Bool.and_eq_true] at h;cases k with
  |zero=>exact h.1
  |succ k=>exact ih h.2 k (by simpa using hk)
theorem scblock_of (base b bk bg:Nat) (ok:Nat→Prop) (PA:Option Addr) (pc:Nat) (P:List Fu) (F:Nat) (N:Nat) (ST:StC base b bk bg ok PA pc P F N):BlC base b bk bg ok PA pc P F N:=by
 intro l d A c w a hN hok hr hc hn0 hn1 h hP;have hlen:l.length≤140737488355328:=by unfold reach at hc;omega
 have hlt:=h.lt;have hoks:∀q,ok q→¬SS b bk bg q:=fun q hq hs=>by have h1:=hP.hok q hq;have h2:=(hlt q hs).1;omega
 have hfar:∀q,w.heap.size≤q→¬SS b bk bg q:=fun q hq hs=>by have h2:=(hlt q hs).2;omega
 have HOKS:=Zh hoks;clear hoks;have HFAR:=Zh hfar;clear hfar hlt;have H:=Zh h;clear h;have HR:=Zh hr;clear hr;have HP:=Zh hP;clear hP;have HOK:=Zh hok;clear hok;go_enter Tryz.func119,Tryz.ntmps119;go_wp2_with fail
 go_loopw [6,13] (fun v i wr=>∃k:Nat,∃ak awk,i= .int .i64 k∧k≤l.length∧scStmts P F (l.take k) a []= .ok (ak,awk)∧AwL b w.heap.size wr v awk∧Fr (SS b bk bg) w wr∧ScAt base b (.slice PA P.length pc) wr ak bk bg) (fun _ i _=>l.length-(intOf i).toNat)
 case atStart=>exact⟨0,a,[],rfl,by omega,rfl,AwL.nil _ _ _,Fr.refl _ _,H.out⟩
 case round=>
  obtain⟨k,ak,awk,rfl,hk,hsc,haw,hfr,hs⟩:=hrel;have HSC:=Zh hsc;have hnk:=scStmts_n P F _ a ak [] awk hsc;clear hsc;have hsz1:=sizes_take_le l k;have b1:=(Zc hs.blk).1 1 _ rfl;have bf:=(Zc hs.blk).2;have hblt:=blk_lt hs.blk;have hrr:=HR.out.fr hfr HOKS.out (fun _ h=>h);have HRR:=Zh hrr;clear hrr;have HAW:=Zh haw;clear haw;have HF:=Zh hfr;clear hfr;have HS:=Zh hs;clear hs;by_cases hlt:k<l.length
  ·obtain⟨g,o,A1,c1,A2,c2,A3,c3,A4,c4,rfl,hd,e0,e1,e2,e3,e4,e5,e6,e7,e8,r1,r2,r3,r4⟩:=at_st HRR.out k hlt;have HSR:=Zh (⟨r1,r2,r3,r4⟩:StRd ok wr l[k] A1 A2 A3 A4 c1 c2 c3 c4);clear r1 r2 r3 r4;have hsz2:=sizes_take l k hlt;have hsz3:=sizes_take_le l (k+1);have hbn:ak.n≤1099511627776:=by omega
   have hbn0:0≤ak.n:=by omega
   generalize hx:l[k]=x at*;have hxok:St.ok x d=true:=by rw[←hx];exact oks_at HOK.out k hlt
   have HX:=Zh hx;clear hx;have HXOK:=Zh hxok;clear hxok;have hw2:∀o:Obj,Fr (SS b bk bg) wr ((wr.setCell ⟨b,1,none⟩ (.int .i64 (ak.n+1))).alloc o):=fun o=>((Fr.refl (SS b bk bg) wr).setCell _ _ (.inl (.inl rfl))).alloc _;have HW2:=Zh hw2;clear hw2;have hwsz:w.heap.size≤wr.heap.size:=HF.out.size;go_wp2_with fail;refine(ST x d A1 A2 A3 A4 c1 c2 c3 c4 _ ⟨ak.kn,ak.gi,ak.n+1⟩ (by omega) HXOK.out (HSR.out.fr (HW2.out _) HOKS.out) (by simp only;omega) (by simp only;omega) ((HS.out.setn (ak.n+1)).stay ((Zf _).alloc _)) (HP.out.fr (HF.out.trans (HW2.out _)) HOKS.out)).mono ?_;intro e w3 hst;cases hsx:scStmt P F x ⟨ak.kn,ak.gi,ak.n+1⟩ with
   |error y=>
    rw[hsx] at hst;obtain⟨rfl,hf3⟩:=hst;have herr:scStmts P F l a []= .error y:=by
     have h1:scStmts P F (l.take (k+1)) a []= .error y:=by
      rw[take_snoc l k hlt,HX.out,scStmts_snoc,HSC.out];simp only;rw[hsx]
     have h2:=scStmts_err P F (l.drop (k+1)) _ _ _ _ h1
     rwa [List.take_append_drop] at h2
    have HE:=Zh herr;clear herr hsx;have HF3:=Zh ((HF.out.trans (HW2.out _)).trans hf3);clear hf3;go_wp2_with fail;refine⟨rfl,?_⟩;rw[HE.out];exact⟨rfl,HF3.out⟩
   |ok p=>
    obtain⟨a2,aw2⟩:=p;rw[hsx] at hst;obtain⟨v2,rfl,haw2,hf3,h3⟩:=hst;have haw2:=haw2.mono (B':=w.heap.size) (by simp;omega);have hok1:scStmts P F (l.take (k+1)) a []= .ok (a2,awk++aw2):=by
     rw[take_snoc l k hlt,HX.out,scStmts_snoc,HSC.out];simp only;rw[hsx]
    have hlen2:=scStmt_n P F x _ a2 aw2 hsx;have HO:=Zh hok1;clear hok1 hsx;have hf13:Fr (SS b bk bg) wr w3:=(HW2.out _).trans hf3;obtain⟨vs,p1,p2,p3⟩:=HAW.out.fr hf13 HFAR.out;obtain⟨ys,q1,q2,q3⟩:=haw2;obtain⟨Av,cv,rfl,_⟩:=row_slice p1;obtain⟨Ay,cy,rfl,_⟩:=row_slice q1;have Q1:=Zh (row_src q1);have Q4:=Zh (aw_one q2 q3);have hq1:=fun i hi=>(p3 i hi);have HQ:=Zh (fun(w4:World) (S:Nat→Prop) (hf:Fr S w3 w4) (hS1:∀k,S k→(Value.slice Av vs.length cv).ownBlock=some k)=>aw_append (B:=w.heap.size) (B':=w.heap.size) (w:=w4) (b:=b) (Nat.le_refl _) p2 (fun i hi=>by
     obtain⟨x,pw,ps,g1,g2,g3,g4⟩:=p3 i hi;have hne:=away_ne g2 p1;exact⟨x,pw,ps,g1,g2.fr hf (fun h=>hne.1 (hS1 _ h)) (fun h=>hne.2 (hS1 _ h)),g3,g4⟩) q2 (fun i hi=>by
     obtain⟨x,pw,ps,g1,g2,g3,g4⟩:=q3 i hi;have hne:=away_ne g2 p1;exact⟨x,pw,ps,g1,g2.fr hf (fun h=>hne.1 (hS1 _ h)) (fun h=>hne.2 (hS1 _ h)),g3,g4⟩))
    have hnk3:awk.length≤St.sizes (l.take k):=by simpa using hnk.2.2
    have hvl:vs.length≤1099511627776:=by rw[p2];omega
    have hyl:ys.length≤1099511627776:=by rw[q2];omega
    have hal:(vs++ys).length=(awk++aw2).length:=by rw[List.length_append,List.length_append,p2,q2]
    have hw3:w.heap.size≤w3.heap.size:=by have:=hf13.size;omega
    have P1:=Zh p1;have HF3:=Zh (HF.out.trans hf13);have H3:=Zh h3;have HAL:=Zh hal;clear p1 p2 p3 q1 q2 q3 hf3 hf13 h3 hal hq1;go_wp2_with (at_builtin;refine app_fn rfl _ _ rfl w.heap.size (.slice Av vs.length cv) vs rfl P1.out Ay cy ys rfl Q1.out Q4.out hvl hyl hw3 ?qk)
    case qk=>
     intro v6 w4 hown hf4;have HW4:=Zh (⟨vs++ys,(by first|exact hown|(rw[List.length_append];exact hown)),HAL.out,HQ.out w4 _ hf4 fun k h=>h.2⟩:AwL b w.heap.size w4 v6 (awk++aw2));have hss:∀q,SS b bk bg q→¬(w.heap.size≤q∧(Value.slice Av vs.length cv).ownBlock=some q):=fun q hq h=>HFAR.out q h.1 hq;have H4:=Zh (H3.out.fr hf4 hss);have HF4:=Zh (HF3.out.then hf4 fun q hq h=>by have h1:w.heap.size≤q:=h.1;omega);clear hown hf4 hss;go_wp2_with fail;go_roundw
     case rel=>exact⟨k+1,a2,awk++aw2,by go_num,by omega,HO.out,HW4.out,HF4.out,H4.out⟩
     case measure=>simp[intOf];omega
  ·obtain rfl:k=l.length:=by omega
   rw[List.take_length] at hnk hsz1;have hsc2:scStmts P F l a []= .ok (ak,awk):=by have:=HSC.out;rwa [List.take_length] at this
   have HSC2:=Zh hsc2;clear hsc2;have hnk3:awk.length≤St.sizes l:=by simpa using hnk.2.2
   obtain⟨Av,cv,rfl,hcv⟩:=HAW.out.slice;go_wp2_with fail
   go_loopw [33] (fun i wz=>∃j:Nat,i= .int .i64 j∧j≤awk.length∧AwL b w.heap.size wz (.slice Av awk.length cv) awk∧Fr (SS b bk bg) w wz∧ScAt base b (.slice PA P.length pc) wz (ak.dels (awk.take j)) bk bg) (fun i _=>awk.length-(intOf i).toNat)
   case atStart=>exact⟨0,rfl,by omega,HAW.out,HF.out,HS.out⟩
   case round=>
    obtain⟨j,rfl,hj,haw,hfr,hs⟩:=hrel;have HAW2:=Zh haw;clear haw;have HF2:=Zh hfr;clear hfr;have HS2:=Zh hs;clear hs;by_cases hlt2:j<awk.length
    ·obtain⟨g,pw,ps,hav,y0,y1,y2⟩:=HAW2.out.at j hlt2;have Y1:=Zh y1;clear y1;have Y2:=Zh y2;clear y2;subst hav;go_wp2_with fail;refine(scaway_any base b pw ps _ _ _ bk bg awk[j] HS2.out Y1.out Y2.out).mono ?_;rintro e w6 ⟨rfl,hf6,h6⟩;have hf6':Fr (SS b bk bg) _ w6:=hf6.mono fun _ _ h=>.inr (.inl h);have HAW6:=Zh (HAW2.out.fr hf6' HFAR.out);have HF6:=Zh (HF2.out.trans hf6');clear hf6 hf6';have H6:=Zh h6;clear h6;go_wp2_with fail;go_roundw
     case rel=>exact⟨j+1,by go_num,by omega,HAW6.out,HF6.out,by rw[take_snoc _ _ hlt2,dels_snoc];exact H6.out⟩
     case measure=>simp[intOf];omega
    ·obtain rfl:j=awk.length:=by omega
     go_wp2_with fail
     go_end0
     rw[HSC2.out];have h:=HS2.out;rw[List.take_length] at h;exact⟨rfl,HF2.out,h⟩
theorem scall (base b bk bg:Nat) (ok:Nat→Prop) (PA:Option Addr) (pc:Nat) (P:List Fu) (F:Nat):∀N,StC base b bk bg ok PA pc P F N∧BlC base b bk bg ok PA pc P F N
 |0=>by
  have h0:StC base b bk bg ok PA pc P F 0:=by
   intro s d A1 A2 A3 A4 c1 c2 c3 c4 w a hN;exfalso;have:=St.size_eq s;omega
  exact⟨h0,scblock_of base b bk bg ok PA pc P F 0 h0⟩
 |N+1=>by
  have h1:=scstmt_of base b bk bg ok PA pc P F N (scall base b bk bg ok PA pc P F N).2;exact⟨h1,scblock_of base b bk bg ok PA pc P F (N+1) h1⟩
theorem scParams_snoc (x:Pa):∀(l:List Pa) (a:Sc),scParams (l++[x]) a=match scParams l a with
  | .error y=>.error y
  | .ok a1=>a1.give x.name
 |[],a=>by simp only[List.nil_append,scParams];cases a.give x.name<;>rfl
 |y::l,a=>by
  simp only[List.cons_append,scParams];cases a.give y.name with
  |error z=>rfl
  |ok a1=>exact scParams_snoc x l a1
theorem scParams_err (r:List Pa) (z:Int×Int):∀(l:List Pa) (a:Sc),scParams l a= .error z→scParams (l++r) a= .error z
 |[],a,h=>by cases h
 |y::l,a,h=>by
  simp only[List.cons_append,scParams] at h ⊢;cases hg:a.give y.name with
  |error z=>rw[hg] at h;exact h
  |ok a1=>rw[hg] at h;exact scParams_err r z l a1 h
theorem give_n {a a1:Sc} {nm:ByteArray} (h:a.give nm= .ok a1):a1.n=a.n:=by
 unfold Sc.give at h;split at h
 ·cases h
 ·cases h;rfl
theorem scParams_n:∀(l:List Pa) (a a1:Sc),scParams l a= .ok a1→a1.n=a.n
 |[],a,a1,h=>by cases h;rfl
 |y::l,a,a1,h=>by
  simp only[scParams] at h;cases hg:a.give y.name with
  |error z=>rw[hg] at h;cases h
  |ok a2=>rw[hg] at h;exact(scParams_n l a2 a1 h).trans (give_n hg)
def FnR (b:Nat) (PV:Value) (w:World) (r:Except (Int×Int) Int) (e:Ending) (w':World):Prop:=match r with
 | .error x=>e= .panicked [{v:=faultV x.1 x.2,recovered:=false}]∧Fr (fun k=>k=b) w w'
 | .ok n=>e= .returned (.tuple #[])∧Fr (fun k=>k=b) w w'∧∃v2 v3,w'.heap[b]? =some (.cells #[PV,.int .i64 n,v2,v3] 79 (0,0))
theorem scfun_any (base b:Nat) (ok:Nat→Prop) (PA:Option Addr) (pc:Nat) (P:List Fu) (F:Nat) (hF:F<P.length) (w:World) (n:Int) (v2 v3:Value) (hb:w.heap[b]? =some (.cells #[.slice PA P.length pc,.int .i64 n,v2,v3] 79 (0,0)))
  (hbase:base≤b) (hP:ScP base ok PA pc P F w) (hok:okF P[F]=true) (hn0:0≤n) (hn1:n+St.sizes P[F].body≤1099511627000):
  Calls Tryz.prog 50 #[.pointer (some ⟨b,0,none⟩),.int .i64 F] w (FnR b (.slice PA P.length pc) w (scFun P F P[F] n)):=by
 obtain⟨g,o,A1,c1,A2,c2,A3,c3,hpa,hd,e0,e1,e2,e3,e4,r1,r2,r3⟩:=at_fu hP.rows F hF;have R1:=Zh r1;clear r1;have R2:=Zh r2;clear r2;have R3:=Zh r3;clear r3;subst hpa;have hPl:P.length≤140737488355328:=by have:=hP.hc;unfold reach at this;omega
 have hpc:=hP.hpc;have b0:=(Zc hb).1 0 _ rfl;have hblt:=blk_lt hb;have HP:=Zh hP;clear hP;have HB:=Zh hb;clear hb;generalize hf:P[F]=f at*;have HFE:=Zh hf;clear hf;have HOKF:=Zh hok;clear hok;obtain⟨W0,HW0⟩:∃W0,W0=w.alloc (.cells #[.string f.name,.slice A1 f.params.length c1,.slice A2 f.body.length c2,.bool f.sec,.slice A3 f.ret.length c3] 53):=⟨_,rfl⟩;have hf0:Fr Non w W0:=by rw[HW0];exact(Zf w).alloc _
 have hbx:W0.heap[w.heap.size]? =some (.cells #[.string f.name,.slice A1 f.params.length c1,.slice A2 f.body.length c2,.bool f.sec,.slice A3 f.ret.length c3] 53 (0,0)):=by rw[HW0];exact blk_new _ _ _
 have g0:=(Zc hbx).1 0 _ rfl;have hPr:=HP.out.fr hf0 (fun _ _=>non _);have HC:=Zh (named_ahead_any P F w.heap.size (by omega) ok _ pc f.name W0 hPr.rows hPr.hc g0);have HBX:=Zh hbx;clear hbx hPr;have HF0:=Zh hf0;have b00:=hf0.cell' b0 (non _);clear hf0 g0;have hmf:∀(fn:Fn) (first cap:Array Value) (w:World),(Instr.makeFunc fn first cap).run Tryz.prog w= .ok (.func fn first cap) w:=fun _ _ _ _=>rfl;have hmm:=@run_makeMap Tryz.prog;go_enter Tryz.func50,Tryz.ntmps50;go_wp2_with fail;rw[←HW0];clear HW0;refine HC.out.mono ?_;rintro e w1 ⟨rfl,hf1⟩;have HF1:=Zh (HF0.out.trans hf1);have hb1:=Zb HB.out HF1.out (non _);have hbx1:=Zb HBX.out hf1 (non _);have g1:=(Zc hbx1).1 1 _ rfl;have p1:=(Zc hb1).1 1 _ rfl;have p2:=(Zc hb1).1 2 _ rfl;have p3:=(Zc hb1).1 3 _ rfl;have pf:=(Zc hb1).2;have hb1lt:=blk_lt hb1;have hx1lt:=blk_lt hbx1;have HB1:=Zh hb1;clear hb1;have HBX1:=Zh hbx1;clear hbx1 hf1;generalize hq:((P.take F).any fun g=>sq g.name f.name)=q;have HQ:=Zh hq;clear hq;cases q with
 |true=>
  go_wp2_with fail;refine(scbad_any base b (.slice (some ⟨g,o,none⟩) P.length pc) w1 ⟨[],[],n⟩ 0 0 9 p1).mono ?_;rintro e w' ⟨rfl,rfl⟩;unfold Sc.err faultP;go_wp2_with fail;refine⟨rfl,?_⟩;unfold scFun;rw[HQ.out,if_pos rfl];exact⟨rfl,HF1.out.non⟩
 |false=>
  go_upto_region 4 with fail;obtain⟨W2,HW2⟩:∃W2,W2=(((w1.setCell ⟨b,2,none⟩ (.map (some w1.heap.size))).setCell ⟨b,3,none⟩ (.map (some (w1.heap.size+1)))).alloc (.map #[] 0)).alloc (.map #[] 0):=⟨_,rfl⟩;rw[←HW2];have hf2a:Fr (fun k=>k=b) w1 ((w1.setCell ⟨b,2,none⟩ (.map (some w1.heap.size))).setCell ⟨b,3,none⟩ (.map (some (w1.heap.size+1)))):=((Fr.refl (fun k=>k=b) w1).setCell _ _ (.inl rfl)).setCell _ _ (.inl rfl);have hf2:Fr (fun k=>k=b) w1 W2:=by rw[HW2];exact(hf2a.alloc _).alloc _
  obtain⟨bk,hbk⟩:∃bk,bk=w1.heap.size:=⟨_,rfl⟩;have h2:ScAt base b (.slice (some ⟨g,o,none⟩) P.length pc) W2 ⟨[],[],n⟩ bk (bk+1):=by
   have hm1:=MapS.new ((w1.setCell ⟨b,2,none⟩ (.map (some w1.heap.size))).setCell ⟨b,3,none⟩ (.map (some (w1.heap.size+1))));have hm2:=MapS.new (((w1.setCell ⟨b,2,none⟩ (.map (some w1.heap.size))).setCell ⟨b,3,none⟩ (.map (some (w1.heap.size+1)))).alloc (.map #[] 0));have hm1':=hm1.fr ((Zf _).alloc (.map #[] 0)) (non _);rw[←HW2] at hm1' hm2;have e1:((w1.setCell ⟨b,2,none⟩ (.map (some w1.heap.size))).setCell ⟨b,3,none⟩ (.map (some (w1.heap.size+1)))).heap.size=bk:=by rw[hbk];simp
   have e2:(((w1.setCell ⟨b,2,none⟩ (.map (some w1.heap.size))).setCell ⟨b,3,none⟩ (.map (some (w1.heap.size+1)))).alloc (.map #[] 0)).heap.size=bk+1:=by rw[hbk];simp
   rw[e1] at hm1';rw[e2] at hm2;refine⟨?_,hm1',hm2,by omega,hbase,by omega,by omega⟩;rw[HW2,hbk];exact Zb (blk_set (blk_set HB1.out 2 _) 3 _) (((Zf _).alloc _).alloc _) (non _)
  have hsz12:=hf2.size;have hs1:∀q,q<w.heap.size→SS b bk (bk+1) q→q=b:=fun q hq h=>by
   rcases h with h|h|h
   ·exact h
   ·omega
   ·omega
  have hxs:¬SS b bk (bk+1) w.heap.size:=fun h=>by
   rcases h with h|h|h<;>omega
  have hoks:∀q,ok q→¬SS b bk (bk+1) q:=fun q hq h=>by
   have h1:=HP.out.hok q hq;rcases h with h|h|h<;>omega
  have HFW:=Zh (HF1.out.non.trans (hf2.mono fun _ _ h=>.inl h):Fr (SS b bk (bk+1)) w W2);have hbx2:=Zb HBX1.out hf2 (by omega);have HBX2:=Zh hbx2;clear hbx2;have H2:=Zh h2;clear h2;have HS1:=Zh hs1;clear hs1;have HXS:=Zh hxs;clear hxs;have HOKS:=Zh hoks;clear hoks;have HBK:=Zh hbk;clear hf2a hf2 HW2 p1 p2 p3 pf g1 b00 b0 e0 e1 e2 e3 e4 hmm;have g1:=(Zc HBX2.out).1 1 _ rfl;have hpl:f.params.length≤140737488355328:=by have:=R1.out.2.1;unfold reach at this;omega
  have hbl:f.body.length≤140737488355328:=by have:=R2.out.2.1;unfold reach at this;omega
  go_upto_region 5 with fail
  go_loopw [39] (fun i wr=>∃k:Nat,∃ak,i= .int .i64 k∧k≤f.params.length∧scParams (f.params.take k) ⟨[],[],n⟩= .ok ak∧Fr (SS b bk (bk+1)) W2 wr∧ScAt base b (.slice (some ⟨g,o,none⟩) P.length pc) wr ak bk (bk+1)) (fun i _=>f.params.length-(intOf i).toNat)
  case atStart=>exact⟨0,⟨[],[],n⟩,rfl,by omega,rfl,Fr.refl _ _,H2.out⟩
  case round=>
   obtain⟨k,ak,rfl,hk,hsc,hfr,hs⟩:=hrel;have HSC:=Zh hsc;clear hsc;have HFR:=Zh hfr;clear hfr;have HS:=Zh hs;clear hs;by_cases hlt:k<f.params.length
   ·obtain⟨pg,po,hA1,hd1,q0,q1,q2,q3⟩:=at_pa (R1.out.2.2.fr (HFW.out.trans HFR.out) HOKS.out fun _ h=>h) k hlt;subst hA1;generalize hx:f.params[k]=x at*;have HX:=Zh hx;clear hx;have hwz:=(Zf wr).alloc (.cells #[.string x.name,.bool x.buf,.bool x.sec,.bool x.mt] 56);have HS0:=Zh (HS.out.stay hwz);clear hwz;go_wp2_with fail;refine(scgive_any base b _ _ ak bk (bk+1) x.name HS0.out).mono ?_;intro e w3 hgr;unfold GiveR at hgr;cases hgv:ak.give x.name with
    |error y=>
     rw[hgv] at hgr;obtain⟨rfl,hf3⟩:=hgr;have herr:scParams f.params ⟨[],[],n⟩= .error y:=by
      have h1:scParams (f.params.take (k+1)) ⟨[],[],n⟩= .error y:=by
       rw[take_snoc _ k hlt,HX.out,scParams_snoc,HSC.out];simp only;rw[hgv]
      have h2:=scParams_err (f.params.drop (k+1)) y _ _ h1
      rwa [List.take_append_drop] at h2
     have HE:=Zh herr;clear herr hgv;have HF3:=Zh ((HFW.out.trans HFR.out).trans (box_fr hf3).non);clear hf3;unfold faultP;go_wp2_with fail;refine⟨rfl,?_⟩;unfold scFun;rw[HQ.out,if_neg (by decide),HE.out];exact⟨rfl,HF3.out.mono fun q hq h=>HS1.out q hq h⟩
    |ok a1=>
     rw[hgv] at hgr;obtain⟨v,pw,ps,rfl,haw,hp1,hp2,hf3,h3⟩:=hgr;have hok1:scParams (f.params.take (k+1)) ⟨[],[],n⟩= .ok a1:=by
      rw[take_snoc _ k hlt,HX.out,scParams_snoc,HSC.out];simp only;rw[hgv]
     have HO:=Zh hok1;clear hok1 hgv haw;have HF3:=Zh (HFR.out.trans (box_fr hf3));clear hf3;have H3:=Zh h3;clear h3;go_wp2_with fail;go_roundw
     case rel=>exact⟨k+1,a1,by go_num,by omega,HO.out,HF3.out,H3.out⟩
     case measure=>simp[intOf];omega
   ·obtain rfl:k=f.params.length:=by omega
    have hsc2:scParams f.params ⟨[],[],n⟩= .ok ak:=by have:=HSC.out;rwa [List.take_length] at this
    have han:=scParams_n _ _ _ hsc2;have HPA:=Zh hsc2;clear hsc2;have han1:0≤ak.n:=by rw[han];exact hn0
    have han2:ak.n+St.sizes f.body≤1099511627000:=by rw[han];exact hn1
    have HAN:=Zh han;clear han;have HBX3:=Zh (Zb HBX2.out HFR.out HXS.out);clear g1;have g2:=(Zc HBX3.out).1 2 _ rfl;have HFW3:=Zh (HFW.out.trans HFR.out);obtain⟨wp,rfl⟩:∃wp:World,wp=wr:=⟨_,rfl⟩;go_upto_region 10 with fail
    go_loopw [51] (fun i wz=>∃j:Nat,∃aj awj,i= .int .i64 j∧j≤f.body.length∧scStmts P F (f.body.take j) ak []= .ok (aj,awj)∧Fr (SS b bk (bk+1)) wp wz∧ScAt base b (.slice (some ⟨g,o,none⟩) P.length pc) wz aj bk (bk+1)) (fun i _=>f.body.length-(intOf i).toNat)
    case atStart=>exact⟨0,ak,[],rfl,by omega,rfl,Fr.refl _ _,HS.out⟩
    case round=>
     obtain⟨j,aj,awj,rfl,hj,hsc,hfr,hs⟩:=hrel;have HSC:=Zh hsc;have hnk:=scStmts_n P F _ ak aj [] awj hsc;clear hsc;have hsz1:=sizes_take_le f.body j;have b1:=(Zc hs.blk).1 1 _ rfl;have bf:=(Zc hs.blk).2;have hblt3:=blk_lt hs.blk;have HFR:=Zh hfr;clear hfr;have HS:=Zh hs;clear hs;have HRR:=Zh (R2.out.2.2.fr (HFW3.out.trans HFR.out) HOKS.out (fun _ h=>h));have HBX4:=Zh (Zb HBX3.out HFR.out HXS.out);by_cases hlt:j<f.body.length
     ·obtain⟨bg,bo,B1,d1,B2,d2,B3,d3,B4,d4,hA2,hd,e0,e1,e2,e3,e4,e5,e6,e7,e8,r1,r2,r3,r4⟩:=at_st HRR.out j hlt;have HSR:=Zh (⟨r1,r2,r3,r4⟩:StRd ok _ f.body[j] B1 B2 B3 B4 d1 d2 d3 d4);clear r1 r2 r3 r4;have hsz2:=sizes_take f.body j hlt;have hsz3:=sizes_take_le f.body (j+1);have hbn:aj.n≤1099511627776:=by omega
      have hbn0:0≤aj.n:=by omega
      subst hA2;generalize hx:f.body[j]=x at*;have hxok:St.ok x 1=true:=by
       have hbo:=HOKF.out;simp only[okF,Bool.and_eq_true] at hbo;rw[←hx];exact oks_at hbo.1 j hlt
      have HX:=Zh hx;clear hx;have HXOK:=Zh hxok;clear hxok;have HW3:=Zh (fun o:Obj=>(((Fr.refl (SS b bk (bk+1)) wr).setCell ⟨b,1,none⟩ (.int .i64 (aj.n+1)) (.inl (.inl rfl))).alloc o));go_wp2_with fail;refine((scall base b bk (bk+1) ok (some ⟨g,o,none⟩) pc P F x.size).1 x 1 B1 B2 B3 B4 d1 d2 d3 d4 _ ⟨aj.kn,aj.gi,aj.n+1⟩ (Nat.le_refl _) HXOK.out (HSR.out.fr (HW3.out _) HOKS.out) (by simp only;omega) (by simp only;omega) ((HS.out.setn (aj.n+1)).stay ((Zf _).alloc _)) (HP.out.fr ((HFW3.out.trans HFR.out).trans (HW3.out _)) HOKS.out)).mono ?_;intro e w3 hst;cases hsx:scStmt P F x ⟨aj.kn,aj.gi,aj.n+1⟩ with
      |error y=>
       rw[hsx] at hst;obtain⟨rfl,hf3⟩:=hst;have herr:scStmts P F f.body ak []= .error y:=by
        have h1:scStmts P F (f.body.take (j+1)) ak []= .error y:=by
         rw[take_snoc _ j hlt,HX.out,scStmts_snoc,HSC.out];simp only;rw[hsx]
        have h2:=scStmts_err P F (f.body.drop (j+1)) _ _ _ _ h1
        rwa [List.take_append_drop] at h2
       have HE:=Zh herr;clear herr hsx;have HF3:=Zh (((HFW3.out.trans HFR.out).trans (HW3.out _)).trans hf3);clear hf3;go_wp2_with fail;refine⟨rfl,?_⟩;unfold scFun;rw[HQ.out,if_neg (by decide),HPA.out];simp only;rw[HE.out];exact⟨rfl,HF3.out.mono fun q hq h=>HS1.out q hq h⟩
      |ok p=>
       obtain⟨a2,aw2⟩:=p;rw[hsx] at hst;obtain⟨v2,rfl,haw2,hf3,h3⟩:=hst;have hok1:scStmts P F (f.body.take (j+1)) ak []= .ok (a2,awj++aw2):=by
        rw[take_snoc _ j hlt,HX.out,scStmts_snoc,HSC.out];simp only;rw[hsx]
       have HO:=Zh hok1;clear hok1 hsx haw2;have HF3:=Zh ((HFR.out.trans (HW3.out _)).trans hf3);clear hf3;have H3:=Zh h3;clear h3;go_wp2_with fail;go_roundw
       case rel=>exact⟨j+1,a2,awj++aw2,by go_num,by omega,HO.out,HF3.out,H3.out⟩
       case measure=>simp[intOf];omega
     ·obtain rfl:j=f.body.length:=by omega
      rw[List.take_length] at hnk hsz1;have hsc2:scStmts P F f.body ak []= .ok (aj,awj):=by have:=HSC.out;rwa [List.take_length] at this
      have HBD:=Zh hsc2;clear hsc2;have g4:=(Zc HBX4.out).1 4 _ rfl;have hbn:aj.n≤1099511627776:=by omega
      have hbn0:0≤aj.n:=by omega
      have HW3:=Zh ((Fr.refl (SS b bk (bk+1)) wr).setCell ⟨b,1,none⟩ (.int .i64 (aj.n+1)) (.inl (.inl rfl)));have hxb:w.heap.size≠b:=by omega
      go_wp2_with fail;refine(scexprs_any (Ex.sizes f.ret+1) f.ret ok A3 c3 base b _ _ ⟨aj.kn,aj.gi,aj.n+1⟩ bk (bk+1) (by omega) (R3.out.2.2.fr ((HFW3.out.trans HFR.out).trans HW3.out) HOKS.out fun _ h=>h) R3.out.2.1 (HS.out.setn (aj.n+1))).mono ?_;rintro e w4 ⟨he1,hf4⟩;have HF4:=Zh (((HFW3.out.trans HFR.out).trans HW3.out).trans hf4.non);have h4:=(HS.out.setn (aj.n+1)).stay hf4;clear hf4;cases hx1:Ex.askss (inM aj.kn) f.ret with
      |false=>
       rw[hx1] at he1;obtain rfl:=he1.f;clear he1;have HXR:=Zh hx1;clear hx1 h4;go_wp2_with fail;refine⟨rfl,?_⟩;unfold scFun;rw[HQ.out,if_neg (by decide),HPA.out];simp only;rw[HBD.out];simp only;rw[HXR.out];exact⟨rfl,HF4.out.mono fun q hq h=>HS1.out q hq h⟩
      |true=>
       rw[hx1] at he1;obtain rfl:=he1.t;clear he1;have HXR:=Zh hx1;clear hx1;have k1:=(Zc h4.blk).1 1 _ rfl;have kf:=(Zc h4.blk).2;have HBF:=Zh h4.blk;have hblt4:=blk_lt h4.blk;clear h4 b1 bf;go_wp2_with fail
       go_end0
       unfold scFun;rw[HQ.out,if_neg (by decide),HPA.out];simp only;rw[HBD.out];simp only;rw[HXR.out,if_pos rfl];exact⟨rfl,(HF4.out.mono fun q hq h=>HS1.out q hq h).setCell _ _ (.inl rfl),_,_,blk_set HBF.out 1 _⟩
theorem pletter_any (c:UInt8) (w:World):Calls Tryz.prog 152 #[vu8 c] w fun e w'=>e= .returned (.bool (letterM c))∧w=w':=by
 have hc:=c.toNat_lt;go_enter Tryz.func152,Tryz.ntmps152;go_wp2_with fail;all_goals
  go_ret;refine⟨ret_bool ?_,rfl⟩;rw[Bool.eq_iff_iff];simp[letterM];try omega
theorem pdigit_any (c:UInt8) (w:World):Calls Tryz.prog 153 #[vu8 c] w fun e w'=>e= .returned (.bool (digitM c))∧w=w':=by
 have hc:=c.toNat_lt;go_enter Tryz.func153,Tryz.ntmps153;go_wp2_with fail;all_goals
  go_ret;refine⟨ret_bool ?_,rfl⟩;rw[Bool.eq_iff_iff];simp[digitM];try omega
theorem ppart_any (c:UInt8) (w:World):Calls Tryz.prog 151 #[vu8 c] w fun e w'=>e= .returned (.bool (partM c))∧w=w':=by
 cases hl:letterM c with
 |true=>
  go_enter Tryz.func151,Tryz.ntmps151;go_wp2_with fail;refine(pletter_any _ _).mono ?_;rintro e w1 ⟨rfl,rfl⟩;go_wp2_with fail;go_ret;exact⟨ret_bool (by simp[partM,hl]),rfl⟩
 |false=>
  go_enter Tryz.func151,Tryz.ntmps151;go_wp2_with fail;refine(pletter_any _ _).mono ?_;rintro e w1 ⟨rfl,rfl⟩;go_wp2_with fail;refine(pdigit_any _ _).mono ?_;rintro e w1 ⟨rfl,rfl⟩;go_wp2_with fail;go_ret;exact⟨ret_bool (by simp[partM,hl]),rfl⟩
theorem word_list (s:ByteArray):wordM s=((s.toList==[108,101,116])||(s.toList==[115,101,99,114,101,116])||(s.toList==[98,117,102])||(s.toList==[105,102])||(s.toList==[101,108,115,101])||(s.toList==[119,104,105,108,101])||(s.toList==[102,111,114])||(s.toList==[118,105,101,119])||(s.toList==[101,100,105,116])||(s.toList==[109,111,118,101])||(s.toList==[111,112,101,110])||(s.toList==[99,97,108,108])||(s.toList==[115,101,97,108])||(s.toList==[102,110])||(s.toList==[114,101,116,117,114,110])||(s.toList==[110,117,109])):=by
 have key:∀x:ByteArray,sq x s=(s.toList==x.data.toList):=fun x=>by
  rw[sq,ByteArray.toList_eq,Bool.eq_iff_iff,beq_iff_eq,beq_iff_eq,eq_comm]
 simp only[wordM,inM,wordsM,List.any_cons,List.any_nil,key,Bool.or_false,Bool.or_assoc]
theorem pword_any (s:ByteArray) (w:World):Calls Tryz.prog 154 #[.string s] w fun e w'=>e= .returned (.bool (wordM s))∧w=w':=by
 go_enter Tryz.func154,Tryz.ntmps154;go_wp2_with fail;all_goals
  go_ret;refine⟨ret_bool ?_,rfl⟩;rw[word_list]
  simp_all
def spanN (p:UInt8→Bool) (l:List UInt8):Nat:=(l.takeWhile p).length
theorem spanN_at {p:UInt8→Bool} {l:List UInt8} (k:Nat) (hk:k≤l.length) (h:∀j,j<k→∀hj:j<l.length,p l[j]=true) (he:k=l.length∨∃hk':k<l.length,p l[k]=false):spanN p l=k:=by
 induction l generalizing k with
 |nil=>simp at hk;subst hk;rfl
 |cons x l ih=>
  cases k with
  |zero=>
   rcases he with he|⟨_,he⟩
   ·simp at he
   ·simp at he;simp[spanN,he]
  |succ k=>
   have h0:=h 0 (by omega) (by simp);simp at h0;have:=ih k (by simpa using hk) (fun j hj hj'=>by have:=h (j+1) (by omega) (by simpa using hj');simpa using this) (by
    rcases he with he|⟨h1,he⟩
    ·exact .inl (by simpa using he)
    ·exact .inr ⟨by simpa using h1,by simpa using he⟩)
   simp only[spanN] at this ⊢;rw[List.takeWhile_cons_of_pos h0,List.length_cons,this]
theorem ppiece_any (s:ByteArray) (hs:s.size≤140737488355328) (w:World):Calls Tryz.prog 155 #[.string s,.func (.func 151) #[] #[]] w fun e w'=>e= .returned (.string (s.extract 0 (spanN partM s.data.toList)))∧w=w':=by
 go_enter Tryz.func155,Tryz.ntmps155;go_wp2_with fail
 go_loop [5] (fun i=>∃k:Nat,i= .int .i64 k∧k≤s.size∧∀j,j<k→∀hj:j<s.data.toList.length,partM s.data.toList[j]=true) (fun i=>s.size-(intOf i).toNat)
 case atStart=>exact⟨0,rfl,by omega,fun j hj=>by omega⟩
 case round=>
  obtain⟨k,rfl,hk,hno⟩:=hrel;have HN:=Zh hno;clear hno;by_cases hlt:k<s.size
  ·have hlt':k<s.data.size:=hlt;have hsk:s.data.toList[k]'(by simpa using hlt')=s[k]:=rfl;have HS:=Zh hsk;clear hsk;have hdk:decide ((k:Int)<(s.size:Int))=true:=by simp;omega
   go_wp2_with fail;refine(ppart_any _ _).mono ?_;rintro e w1 ⟨rfl,rfl⟩;cases hp:partM s[k] with
   |true=>
    have HP:=Zh hp;clear hp;go_wp2_with fail
    go_round
    case rel=>exact⟨k+1,by go_num,by omega,till HN.out fun _=>by rw[HS.out];exact HP.out⟩
    case measure=>simp[intOf];omega
   |false=>
    have HP:=Zh hp;clear hp;go_wp2_with fail;go_ret;refine⟨?_,rfl⟩;rw[spanN_at k (by simpa using Nat.le_of_lt hlt') (fun j hj hj'=>HN.out j hj hj') (.inr ⟨by simpa using hlt',by rw[HS.out];exact HP.out⟩)];rfl
  ·have hdk:decide ((k:Int)<(s.size:Int))=false:=by simp;omega
   obtain rfl:k=s.size:=by omega
   go_wp2_with fail;go_ret;refine⟨?_,rfl⟩;have hl:s.data.toList.length=s.size:=Array.length_toList;rw[spanN_at s.size (Nat.le_of_eq hl.symm) (fun j hj hj'=>HN.out j hj hj') (.inl hl.symm)];have he:s.extract 0 s.size=s:=by simp
   rw[he];rfl
theorem piece_eq (s:ByteArray):sq (s.extract 0 (spanN partM s.data.toList)) s=s.data.toList.all partM:=by
 have hdata:(s.extract 0 (spanN partM s.data.toList)).data.toList=s.data.toList.take (spanN partM s.data.toList):=by
  rw[ByteArray.data_extract,Array.toList_extract];simp
 rw[sq,hdata];generalize s.data.toList=l;have htw:l.take (spanN partM l)=l.takeWhile partM:=by
  have:l.takeWhile partM<+:l:=List.takeWhile_prefix _;rw[spanN];exact(List.prefix_iff_eq_take.1 this).symm
 rw[htw,Bool.eq_iff_iff,beq_iff_eq,List.all_eq_true];constructor
 ·intro h x hx;rw[←h] at hx;exact List.all_eq_true.1 (List.all_takeWhile (p:=partM) (l:=l)) x hx
 ·intro h;have key:∀l:List UInt8,(∀x∈l,partM x=true)→l.takeWhile partM=l:=by
   intro l
   induction l with
   |nil=>intro _;rfl
   |cons x l ih=>intro h;rw[List.takeWhile_cons_of_pos (h x (by simp)),ih fun y hy=>h y (by simp[hy])]
  exact key l h
theorem pnamed_any (s:ByteArray) (w:World):Calls Tryz.prog 112 #[.string s] w fun e w'=>e= .returned (.bool (namedM s))∧w=w':=by
 cases he:emp s with
 |true=>
  have he':=he;rw[←toemp] at he';have he2:(!s.toList.isEmpty)=false:=by rw[he'];rfl
  go_enter Tryz.func112,Tryz.ntmps112;go_wp2_with fail;go_ret;exact⟨ret_bool (by simp[namedM,he]),rfl⟩
 |false=>
  have he':=he;rw[←toemp] at he';have he2:(!s.toList.isEmpty)=true:=by rw[he'];rfl
  have hp:0<s.size:=by
   rcases Nat.eq_zero_or_pos s.size with h|h
   ·simp[emp,h] at he
   ·exact h
  have hd:s.data.getD 0 0=s[0]:=by have hp':0<s.data.size:=hp;rw[Array.getD,dif_pos hp'];rfl
  by_cases h16:s.size≤16
  ·have h16':decide ((s.size:Int)≤16)=true:=by simp;omega
   cases hl:letterM s[0] with
   |false=>
    have HF:=Zh (show namedM s=false by simp[namedM,hd,hl]);clear hd;have H1:=Zh he;clear he;go_enter Tryz.func112,Tryz.ntmps112;go_wp2_with fail;refine(pletter_any _ _).mono ?_;rintro e w1 ⟨rfl,rfl⟩;go_wp2_with fail;go_ret;exact⟨ret_bool HF.out.symm,rfl⟩
   |true=>
    cases hw:wordM s with
    |true=>
     have HF:=Zh (show namedM s=false by simp[namedM,hw]);clear hd;have H1:=Zh he;clear he;go_enter Tryz.func112,Tryz.ntmps112;go_wp2_with fail;refine(pletter_any _ _).mono ?_;rintro e w1 ⟨rfl,rfl⟩;go_wp2_with fail;refine(pword_any _ _).mono ?_;rintro e w1 ⟨rfl,rfl⟩;go_wp2_with fail;go_ret;exact⟨ret_bool HF.out.symm,rfl⟩
    |false=>
     have HF:=Zh (show namedM s=s.data.toList.all partM by simp[namedM,he,h16,hd,hl,hw]);clear hd;have H1:=Zh he;clear he;go_enter Tryz.func112,Tryz.ntmps112;go_wp2_with fail;refine(pletter_any _ _).mono ?_;rintro e w1 ⟨rfl,rfl⟩;go_wp2_with fail;refine(pword_any _ _).mono ?_;rintro e w1 ⟨rfl,rfl⟩;go_wp2_with fail;refine(ppiece_any s (by omega) _).mono ?_;rintro e w1 ⟨rfl,rfl⟩;have hpe:=piece_eq s;rw[←tosq] at hpe;generalize s.extract 0 (spanN partM s.data.toList)=t at*;have HPE:=Zh hpe;clear hpe;go_wp2_with fail;go_ret;exact⟨ret_bool (by rw[HF.out,HPE.out]),rfl⟩
  ·have h16':decide ((s.size:Int)≤16)=false:=by simp;omega
   have HF:=Zh (show namedM s=false by simp[namedM,h16]);have H1:=Zh he;clear he;go_enter Tryz.func112,Tryz.ntmps112;go_wp2_with fail;go_ret;exact⟨ret_bool HF.out.symm,rfl⟩
end Go.Proofs.YtpkpgmnbheenbaaGreatDoor
