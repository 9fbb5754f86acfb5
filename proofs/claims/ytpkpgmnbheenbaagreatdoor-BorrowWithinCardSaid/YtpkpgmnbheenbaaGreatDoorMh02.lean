/- Contracts and laws, Mh02 -/
import Derived.Test.YtpkpgmnbheenbaaGreatDoorMh01
import Derived.MapKept
import Derived.Carry
namespace Go.Proofs.YtpkpgmnbheenbaaGreatDoor
open Go.RowKit
set_option linter.unusedVariables false
set_option linter.unusedSimpArgs false
set_option maxHeartbeats 8000000
set_option maxRecDepth 100000
section
theorem ce_u8:Program.cellsOf Tryz.prog 5=1:=by kernel_rfl
theorem ce_u64:Program.cellsOf Tryz.prog 46=1:=by kernel_rfl
theorem ce_str:Program.cellsOf Tryz.prog 9=1:=by kernel_rfl
theorem ce_bool:Program.cellsOf Tryz.prog 4=1:=by kernel_rfl
theorem ce_ex:Program.cellsOf Tryz.prog 38=1:=by kernel_rfl
theorem ce_strs:Program.cellsOf Tryz.prog 39=1:=by kernel_rfl
theorem ce_st:Program.cellsOf Tryz.prog 40=1:=by kernel_rfl
theorem ce_pa:Program.cellsOf Tryz.prog 51=1:=by kernel_rfl
theorem ce_fu:Program.cellsOf Tryz.prog 22=1:=by kernel_rfl
theorem ce_exE:Program.cellsOf Tryz.prog 48=5:=by kernel_rfl
theorem by_exE:Program.bytesOf Tryz.prog 48=64:=by kernel_rfl
theorem ce_stE:Program.cellsOf Tryz.prog 42=9:=by kernel_rfl
theorem by_stE:Program.bytesOf Tryz.prog 42=144:=by kernel_rfl
theorem ce_paE:Program.cellsOf Tryz.prog 56=4:=by kernel_rfl
theorem by_paE:Program.bytesOf Tryz.prog 56=24:=by kernel_rfl
theorem ce_fuE:Program.cellsOf Tryz.prog 53=5:=by kernel_rfl
theorem by_fuE:Program.bytesOf Tryz.prog 53=96:=by kernel_rfl
theorem ce_pr:Program.cellsOf Tryz.prog 24=1:=by kernel_rfl
theorem by_str:Program.bytesOf Tryz.prog 9=16:=by kernel_rfl
section
variable {H:Type} {enc:TypeId×Value→H} {w:World}
theorem fld {m ty off:Nat} {f:Field} {cs:List Value} {c:Value} {y:DataW H×List MemPlace} {o:Option (DataW H×List MemPlace)} (hf:DataW.trod enc Tryz.prog w 0 (fun _=>true) true m f.type ((cs.drop f.offset).take (Program.cellsOf Tryz.prog f.type))=o)
  (e1:f.type=ty) (e2:f.offset=off) (e3:Program.cellsOf Tryz.prog ty=1) (e4:(cs.drop off).take 1=[c]) (e5:o=some y):Trd enc w m ty [c]=some y:=by
 subst e1 e2 e5;rw[e3,e4] at hf;exact hf
theorem op_ex (fuel:Nat):∀(cs:List Value) (x:DataW H×List MemPlace),Trd enc w fuel 48 cs=some x→Light (x.1.weights Tryz.prog 48)→∃e:Ex,RdCs (InW w) w e.d cs
 :=by
 induction fuel using Nat.strongRecOn with
 |ind fuel ih=>
  intro cs x h hw;obtain⟨xs,m,hm,rfl,hl,hxl,hf⟩:=DataW.trod_struct Tryz.underlying48 h;subst hm;rw[ce_exE] at hl
  match cs,hl,xs,hxl with
  |[c0,c1,c2,c3,c4],_,[y0,y1,y2,y3,y4],_=>
  simp only[DataW.weights,Tryz.underlying48,List.map_cons,List.map_nil,DataW.weightsEach] at hw;have f0:Trd enc w m 5 [c0]=some y0:=fld (hf 0 _ rfl) rfl rfl ce_u8 rfl rfl;have f1:Trd enc w m 46 [c1]=some y1:=fld (hf 1 _ rfl) rfl rfl ce_u64 rfl rfl;have f2:Trd enc w m 9 [c2]=some y2:=fld (hf 2 _ rfl) rfl rfl ce_str rfl rfl;have f3:Trd enc w m 5 [c3]=some y3:=fld (hf 3 _ rfl) rfl rfl ce_u8 rfl rfl;have f4:Trd enc w m 38 [c4]=some y4:=fld (hf 4 _ rfl) rfl rfl ce_ex rfl rfl;obtain⟨v0,e0⟩:=op_u8 Tryz.underlying5 f0;obtain rfl:=List.cons.inj e0 |>.1;obtain⟨v1,e1⟩:=op_u64 Tryz.underlying46 f1;obtain rfl:=List.cons.inj e1 |>.1;obtain⟨v2,e2⟩:=op_str Tryz.underlying9 f2;obtain rfl:=List.cons.inj e2 |>.1;obtain⟨v3,e3⟩:=op_u8 Tryz.underlying5 f3;obtain rfl:=List.cons.inj e3 |>.1;obtain⟨v4,A4,k4,e4,g4,r4,d4⟩:=op_rows Ex.d Tryz.underlying38 ce_exE (by omega) by_exE f4 hw.right.right.right.right.left fun m' y cs' hm h1 h2=>ih m' (by omega) cs' y h1 h2;obtain rfl:=List.cons.inj e4 |>.1;exact⟨.mk v0 v1 v2 v3 v4,rfl,rfl,rfl,rfl,⟨A4,k4,by rw[Ex.ds_length],by rw[Ex.ds_length];exact g4,by rw[Ex.ds_length];exact r4,by rw[Ex.ds_eq];exact d4⟩,trivial⟩
theorem op_st (fuel:Nat):∀(cs:List Value) (x:DataW H×List MemPlace),Trd enc w fuel 42 cs=some x→Light (x.1.weights Tryz.prog 42)→∃e:St,RdCs (InW w) w e.d cs
 :=by
 induction fuel using Nat.strongRecOn with
 |ind fuel ih=>
  intro cs x h hw;obtain⟨xs,m,hm,rfl,hl,hxl,hf⟩:=DataW.trod_struct Tryz.underlying42 h;subst hm;rw[ce_stE] at hl
  match cs,hl,xs,hxl with
  |[c0,c1,c2,c3,c4,c5,c6,c7,c8],_,[y0,y1,y2,y3,y4,y5,y6,y7,y8],_=>
  simp only[DataW.weights,Tryz.underlying42,List.map_cons,List.map_nil,DataW.weightsEach] at hw;have f0:Trd enc w m 5 [c0]=some y0:=fld (hf 0 _ rfl) rfl rfl ce_u8 rfl rfl;have f1:Trd enc w m 9 [c1]=some y1:=fld (hf 1 _ rfl) rfl rfl ce_str rfl rfl;have f2:Trd enc w m 9 [c2]=some y2:=fld (hf 2 _ rfl) rfl rfl ce_str rfl rfl;have f3:Trd enc w m 4 [c3]=some y3:=fld (hf 3 _ rfl) rfl rfl ce_bool rfl rfl;have f4:Trd enc w m 4 [c4]=some y4:=fld (hf 4 _ rfl) rfl rfl ce_bool rfl rfl;have f5:Trd enc w m 38 [c5]=some y5:=fld (hf 5 _ rfl) rfl rfl ce_ex rfl rfl;have f6:Trd enc w m 39 [c6]=some y6:=fld (hf 6 _ rfl) rfl rfl ce_strs rfl rfl;have f7:Trd enc w m 40 [c7]=some y7:=fld (hf 7 _ rfl) rfl rfl ce_st rfl rfl;have f8:Trd enc w m 40 [c8]=some y8:=fld (hf 8 _ rfl) rfl rfl ce_st rfl rfl;obtain⟨v0,e0⟩:=op_u8 Tryz.underlying5 f0;obtain rfl:=List.cons.inj e0 |>.1;obtain⟨v1,e1⟩:=op_str Tryz.underlying9 f1;obtain rfl:=List.cons.inj e1 |>.1;obtain⟨v2,e2⟩:=op_str Tryz.underlying9 f2;obtain rfl:=List.cons.inj e2 |>.1;obtain⟨v3,e3⟩:=op_bool Tryz.underlying4 f3;obtain rfl:=List.cons.inj e3 |>.1;obtain⟨v4,e4⟩:=op_bool Tryz.underlying4 f4;obtain rfl:=List.cons.inj e4 |>.1;obtain⟨v5,A5,k5,e5,g5,r5,d5⟩:=op_rows Ex.d Tryz.underlying38 ce_exE (by omega) by_exE f5 hw.right.right.right.right.right.left fun m y cs' hm h1 h2=>op_ex m cs' y h1 h2;obtain rfl:=List.cons.inj e5 |>.1;obtain⟨v6,A6,k6,e6,g6,r6,d6⟩:=op_rows strD Tryz.underlying39 ce_str (by omega) by_str f6 hw.right.right.right.right.right.right.left fun m y cs' hm h1 _=>by
   obtain⟨s,rfl⟩:=op_str Tryz.underlying9 h1;exact⟨s,rfl,trivial⟩
  obtain rfl:=List.cons.inj e6 |>.1;obtain⟨v7,A7,k7,e7,g7,r7,d7⟩:=op_rows St.d Tryz.underlying40 ce_stE (by omega) by_stE f7 hw.right.right.right.right.right.right.right.left fun m' y cs' hm h1 h2=>ih m' (by omega) cs' y h1 h2;obtain rfl:=List.cons.inj e7 |>.1;obtain⟨v8,A8,k8,e8,g8,r8,d8⟩:=op_rows St.d Tryz.underlying40 ce_stE (by omega) by_stE f8 hw.right.right.right.right.right.right.right.right.left fun m' y cs' hm h1 h2=>ih m' (by omega) cs' y h1 h2;obtain rfl:=List.cons.inj e8 |>.1;exact⟨.mk v0 v1 v2 v3 v4 v5 v6 v7 v8,rfl,rfl,rfl,rfl,rfl,⟨A5,k5,by rw[Ex.ds_length],by rw[Ex.ds_length];exact g5,by rw[Ex.ds_length];exact r5,by rw[Ex.ds_eq];exact d5⟩,⟨A6,k6,by rw[List.length_map],by rw[List.length_map];exact g6,by rw[List.length_map];exact r6,d6⟩,⟨A7,k7,by rw[St.ds_length],by rw[St.ds_length];exact g7,by rw[St.ds_length];exact r7,by rw[St.ds_eq];exact d7⟩,⟨A8,k8,by rw[St.ds_length],by rw[St.ds_length];exact g8,by rw[St.ds_length];exact r8,by rw[St.ds_eq];exact d8⟩,trivial⟩
theorem op_pa (fuel:Nat):∀(cs:List Value) (x:DataW H×List MemPlace),Trd enc w fuel 56 cs=some x→Light (x.1.weights Tryz.prog 56)→∃e:Pa,RdCs (InW w) w e.d cs
 :=by
 induction fuel using Nat.strongRecOn with
 |ind fuel ih=>
  intro cs x h hw;obtain⟨xs,m,hm,rfl,hl,hxl,hf⟩:=DataW.trod_struct Tryz.underlying56 h;subst hm;rw[ce_paE] at hl
  match cs,hl,xs,hxl with
  |[c0,c1,c2,c3],_,[y0,y1,y2,y3],_=>
  simp only[DataW.weights,Tryz.underlying56,List.map_cons,List.map_nil,DataW.weightsEach] at hw;have f0:Trd enc w m 9 [c0]=some y0:=fld (hf 0 _ rfl) rfl rfl ce_str rfl rfl;have f1:Trd enc w m 4 [c1]=some y1:=fld (hf 1 _ rfl) rfl rfl ce_bool rfl rfl;have f2:Trd enc w m 4 [c2]=some y2:=fld (hf 2 _ rfl) rfl rfl ce_bool rfl rfl;have f3:Trd enc w m 4 [c3]=some y3:=fld (hf 3 _ rfl) rfl rfl ce_bool rfl rfl;obtain⟨v0,e0⟩:=op_str Tryz.underlying9 f0;obtain rfl:=List.cons.inj e0 |>.1;obtain⟨v1,e1⟩:=op_bool Tryz.underlying4 f1;obtain rfl:=List.cons.inj e1 |>.1;obtain⟨v2,e2⟩:=op_bool Tryz.underlying4 f2;obtain rfl:=List.cons.inj e2 |>.1;obtain⟨v3,e3⟩:=op_bool Tryz.underlying4 f3;obtain rfl:=List.cons.inj e3 |>.1;exact⟨⟨v0,v1,v2,v3⟩,rfl,rfl,rfl,rfl,trivial⟩
theorem op_fu (fuel:Nat):∀(cs:List Value) (x:DataW H×List MemPlace),Trd enc w fuel 53 cs=some x→Light (x.1.weights Tryz.prog 53)→∃e:Fu,RdCs (InW w) w e.d cs
 :=by
 induction fuel using Nat.strongRecOn with
 |ind fuel ih=>
  intro cs x h hw;obtain⟨xs,m,hm,rfl,hl,hxl,hf⟩:=DataW.trod_struct Tryz.underlying53 h;subst hm;rw[ce_fuE] at hl
  match cs,hl,xs,hxl with
  |[c0,c1,c2,c3,c4],_,[y0,y1,y2,y3,y4],_=>
  simp only[DataW.weights,Tryz.underlying53,List.map_cons,List.map_nil,DataW.weightsEach] at hw;have f0:Trd enc w m 9 [c0]=some y0:=fld (hf 0 _ rfl) rfl rfl ce_str rfl rfl;have f1:Trd enc w m 51 [c1]=some y1:=fld (hf 1 _ rfl) rfl rfl ce_pa rfl rfl;have f2:Trd enc w m 40 [c2]=some y2:=fld (hf 2 _ rfl) rfl rfl ce_st rfl rfl;have f3:Trd enc w m 4 [c3]=some y3:=fld (hf 3 _ rfl) rfl rfl ce_bool rfl rfl;have f4:Trd enc w m 38 [c4]=some y4:=fld (hf 4 _ rfl) rfl rfl ce_ex rfl rfl;obtain⟨v0,e0⟩:=op_str Tryz.underlying9 f0;obtain rfl:=List.cons.inj e0 |>.1;obtain⟨v1,A1,k1,e1,g1,r1,d1⟩:=op_rows Pa.d Tryz.underlying51 ce_paE (by omega) by_paE f1 hw.right.left fun m y cs' hm h1 h2=>op_pa m cs' y h1 h2;obtain rfl:=List.cons.inj e1 |>.1;obtain⟨v2,A2,k2,e2,g2,r2,d2⟩:=op_rows St.d Tryz.underlying40 ce_stE (by omega) by_stE f2 hw.right.right.left fun m y cs' hm h1 h2=>op_st m cs' y h1 h2;obtain rfl:=List.cons.inj e2 |>.1;obtain⟨v3,e3⟩:=op_bool Tryz.underlying4 f3;obtain rfl:=List.cons.inj e3 |>.1;obtain⟨v4,A4,k4,e4,g4,r4,d4⟩:=op_rows Ex.d Tryz.underlying38 ce_exE (by omega) by_exE f4 hw.right.right.right.right.left fun m y cs' hm h1 h2=>op_ex m cs' y h1 h2;obtain rfl:=List.cons.inj e4 |>.1;exact⟨⟨v0,v1,v2,v3,v4⟩,rfl,⟨A1,k1,by rw[List.length_map],by rw[List.length_map];exact g1,by rw[List.length_map];exact r1,d1⟩,⟨A2,k2,by rw[St.ds_length],by rw[St.ds_length];exact g2,by rw[St.ds_length];exact r2,by rw[St.ds_eq];exact d2⟩,rfl,⟨A4,k4,by rw[Ex.ds_length],by rw[Ex.ds_length];exact g4,by rw[Ex.ds_length];exact r4,by rw[Ex.ds_eq];exact d4⟩,trivial⟩
theorem op_prog (fuel:Nat) (v:Value) (cs:List Value) (x:DataW H×List MemPlace) (h:Trd enc w fuel 24 cs=some x) (hw:Light (x.1.weights Tryz.prog 24)):
  ∃(P:List Fu) (A:Option Addr) (c:Nat),cs=[.slice A P.length c]∧P.length≤c∧P.length*96≤reach∧RdRows (InW w) w 5 A 0 (P.map Fu.d):=by
 obtain⟨xs,m,hm,rfl,hl,hxl,hf⟩:=DataW.trod_struct Tryz.underlying24 h;rw[ce_pr] at hl
 match cs,hl,xs,hxl with
 |[c0],_,[y0],_=>
 simp only[DataW.weights,Tryz.underlying24,List.map_cons,List.map_nil,DataW.weightsEach] at hw;have f0:Trd enc w m 22 [c0]=some y0:=fld (hf 0 _ rfl) rfl rfl ce_fu rfl rfl;exact op_rows Fu.d Tryz.underlying22 ce_fuE (by omega) by_fuE f0 hw.left fun m y cs' hm h1 h2=>op_fu m cs' y h1 h2
end
end
section
open Go.MapKept
def MapS (w:World) (b:Nat) (l:List (ByteArray×Value)):Prop:=
 ∃es clock,w.heap[b]? =some (.map es clock)∧es.toList.map (fun e=>(e.key,e.val))=l.map (fun p=>(Value.string p.1,p.2))∧Stamped es clock
def mhas (l:List (ByteArray×Value)) (s:ByteArray):Bool:=l.any fun p=>sq p.1 s
def mget (l:List (ByteArray×Value)) (s:ByteArray) (z:Value):Value:=((l.find? fun p=>sq p.1 s).map (·.2)).getD z
def mset (l:List (ByteArray×Value)) (s:ByteArray) (v:Value):List (ByteArray×Value):=l.map fun p=>if sq p.1 s then(p.1,v) else p
def mput (l:List (ByteArray×Value)) (s:ByteArray) (v:Value):List (ByteArray×Value):=if mhas l s then mset l s v else l++[(s,v)]
def mdel (l:List (ByteArray×Value)) (s:ByteArray):List (ByteArray×Value):=l.filter fun p=> !sq p.1 s
theorem MapS.lt {w:World} {b:Nat} {l:List (ByteArray×Value)} (h:MapS w b l):b<w.heap.size:=by
 obtain⟨es,clock,hb,_⟩:=h;exact(Array.getElem?_eq_some_iff.1 hb).1
theorem MapS.of {w w':World} {b:Nat} {l:List (ByteArray×Value)} (h:MapS w b l) (e:w'.heap[b]? =w.heap[b]?):MapS w' b l:=by
 obtain⟨es,clock,hb,r⟩:=h;exact⟨es,clock,e.trans hb,r⟩
theorem MapS.fr {S:Nat→Prop} {w w':World} {b:Nat} {l:List (ByteArray×Value)} (h:MapS w b l) (hf:Fr S w w') (hs:¬S b):MapS w' b l:=h.of (hf.block b h.lt hs)
theorem MapS.new (w:World):MapS (w.alloc (.map #[] 0)) w.heap.size []:=⟨#[],0,(heap_alloc w _).1,rfl,stamped_empty 0⟩
section
variable {w:World} {b:Nat} {l:List (ByteArray×Value)} {es:Array MapEntry} {clock:Nat}
theorem keys_of (h:es.toList.map (fun e=>(e.key,e.val))=l.map (fun p=>(Value.string p.1,p.2))):es.toList.map (·.key)=l.map (fun p=>Value.string p.1):=by
 have:=congrArg (List.map Prod.fst) h;simpa[List.map_map,Function.comp_def] using this
theorem iskeys (h:es.toList.map (fun e=>(e.key,e.val))=l.map (fun p=>(Value.string p.1,p.2))):∀x∈es.toList,IsKey .string x.key:=by
 intro x hx;have h1:x.key∈es.toList.map (·.key):=List.mem_map.2 ⟨x,hx,rfl⟩;rw[keys_of h] at h1;obtain⟨p,_,e⟩:=List.mem_map.1 h1;rw[←e];trivial
theorem ent_at (h:es.toList.map (fun e=>(e.key,e.val))=l.map (fun p=>(Value.string p.1,p.2))) {j:Nat} {e:MapEntry} {s:ByteArray} (hj:es.toList[j]? =some e) (hk:e.key= .string s):l[j]? =some (s,e.val):=by
 have h1:(es.toList.map (fun e=>(e.key,e.val)))[j]? =some (e.key,e.val):=by rw[List.getElem?_map,hj];rfl
 rw[h,List.getElem?_map] at h1;cases hl:l[j]? with
 |none=>rw[hl] at h1;cases h1
 |some p=>
  rw[hl] at h1;simp only[Option.map_some,Option.some.injEq,Prod.mk.injEq] at h1;rw[hk] at h1;obtain⟨h1,h2⟩:=h1;cases h1;rw[←h2]
theorem lkeys_nodup (h:es.toList.map (fun e=>(e.key,e.val))=l.map (fun p=>(Value.string p.1,p.2))) (hs:Stamped es clock):(l.map (·.1)).Nodup:=by
 have h1:=hs.2.2;rw[keys_of h] at h1;have h2:l.map (fun p=>Value.string p.1)=(l.map (·.1)).map Value.string:=by simp[List.map_map]
 rw[h2] at h1;exact List.Pairwise.imp (fun hne e=>hne (by rw[e])) (List.pairwise_map.1 h1)
theorem find_in (h:es.toList.map (fun e=>(e.key,e.val))=l.map (fun p=>(Value.string p.1,p.2))) (s:ByteArray):
  (Instr.findNow .string (.string s) es.toList 0=some none∧(∀x∈es.toList,x.key≠.string s)∧mhas l s=false)∨
  ∃j e,Instr.findNow .string (.string s) es.toList 0=some (some (j,e.val))∧es[j]? =some e∧e.key= .string s∧l[j]? =some (s,e.val)∧mhas l s=true:=by
 rcases findNow_spec (d:=.string) (k:=.string s) trivial es.toList 0 (iskeys h) with⟨h1,h2⟩|⟨j,e,h1,h2,h3⟩
 ·refine .inl ⟨h1,h2,?_⟩;cases hm:mhas l s
  ·rfl
  ·obtain⟨p,hp,hq⟩:=List.any_eq_true.1 hm;have h5:Value.string s∈es.toList.map (·.key):=by rw[keys_of h,List.mem_map];exact⟨p,hp,by rw[sq_iff.1 hq]⟩
   obtain⟨x,hx,hxe⟩:=List.mem_map.1 h5;exact absurd hxe (h2 x hx)
 ·have hl:=ent_at h h2 h3;refine .inr ⟨j,e,by simpa using h1,by simpa using h2,h3,hl,?_⟩;exact List.any_eq_true.2 ⟨_,List.mem_of_getElem? hl,sq_refl s⟩
theorem find_at {l:List (ByteArray×Value)} (hn:(l.map (·.1)).Nodup) {j:Nat} {s:ByteArray} {v:Value} (h:l[j]? =some (s,v)):(l.find? fun p=>sq p.1 s)=some (s,v):=by
 induction l generalizing j with
 |nil=>simp at h
 |cons p l ih=>
  cases j with
  |zero=>simp at h;subst h;simp[sq_refl]
  |succ j=>
   have hn2:=List.nodup_cons.1 hn;have hne:sq p.1 s=false:=sq_no fun e=>hn2.1 (List.mem_map.2 ⟨(s,v),List.mem_of_getElem? (by simpa using h),e.symm⟩);rw[List.find?_cons_of_neg (by simp[hne])];exact ih hn2.2 (by simpa using h)
theorem mget_no {s:ByteArray} (h:mhas l s=false) (z:Value):mget l s z=z:=by
 rw[mget,List.find?_eq_none.2];rfl;intro p hp hq;rw[mhas,List.any_eq_false] at h;exact h p hp hq
theorem mset_at {l:List (ByteArray×Value)} (hn:(l.map (·.1)).Nodup) {j:Nat} {s:ByteArray} {v:Value} (h:l[j]? =some (s,v)) (u:Value):mset l s u=l.set j (s,u):=by
 induction l generalizing j with
 |nil=>simp at h
 |cons p l ih=>
  have hn2:=List.nodup_cons.1 hn;cases j with
  |zero=>
   simp at h;subst h;have:∀q∈l,(if sq q.1 s then(q.1,u) else q)=q:=by
    intro q hq;rw[if_neg];intro hx;exact hn2.1 (List.mem_map.2 ⟨q,hq,sq_iff.1 hx⟩)
   simp only[mset,List.map_cons,sq_refl,if_true,List.set_cons_zero,List.cons.injEq,true_and];exact(List.map_congr_left this).trans (List.map_id' l)
  |succ j=>
   have h':l[j]? =some (s,v):=by simpa using h
   have hne:sq p.1 s=false:=sq_no fun e=>hn2.1 (List.mem_map.2 ⟨(s,v),List.mem_of_getElem? h',e.symm⟩);have:=ih hn2.2 h';simp only[mset] at this ⊢;rw[List.map_cons,this,hne];rfl
theorem mdel_at {l:List (ByteArray×Value)} (hn:(l.map (·.1)).Nodup) {j:Nat} {s:ByteArray} {v:Value} (h:l[j]? =some (s,v)):mdel l s=l.eraseIdx j:=by
 induction l generalizing j with
 |nil=>simp at h
 |cons p l ih=>
  have hn2:=List.nodup_cons.1 hn;cases j with
  |zero=>
   simp at h;subst h;have:∀q∈l,(!sq q.1 s)=true:=by
    intro q hq;rw[sq_no];rfl;intro hx;exact hn2.1 (List.mem_map.2 ⟨q,hq,hx⟩)
   simp only[mdel,List.filter_cons,sq_refl,List.eraseIdx_cons_zero];exact List.filter_eq_self.2 this
  |succ j=>
   have h':l[j]? =some (s,v):=by simpa using h
   have hne:sq p.1 s=false:=sq_no fun e=>hn2.1 (List.mem_map.2 ⟨(s,v),List.mem_of_getElem? h',e.symm⟩);have:=ih hn2.2 h';simp only[mdel] at this ⊢;rw[List.filter_cons,hne,this];rfl
theorem mdel_no {s:ByteArray} (h:mhas l s=false):mdel l s=l:=by
 rw[mdel,List.filter_eq_self];intro p hp;rw[mhas,List.any_eq_false] at h;have:=h p hp;simpa using this
theorem fr_setBlock {w:World} {b:Nat} (o:Obj) (hb:b<w.heap.size):Fr (fun k=>k=b) w {w with heap:=w.heap.setIfInBounds b o}:=
 ⟨rfl,rfl,rfl,by simp,fun k _ hn=>by
   have hn:k≠b:=hn;simp[Ne.symm hn]⟩
end
variable {P:Program} {w:World} {b:Nat} {l:List (ByteArray×Value)} {t k e:TypeId} {z:Value}
theorem MapS.look (h:MapS w b l) (ht:P.underlying t=some (.map k e)) (hk:P.underlying k=some .string) (hz:∀w,(zeroValue e).run P w= .ok z w) (s:ByteArray):
  (Instr.lookup t (.map (some b)) (.string s) true).run P w= .ok (.tuple #[mget l s z,.bool (mhas l s)]) w∧(Instr.lookup t (.map (some b)) (.string s) false).run P w= .ok (mget l s z) w:=by
 obtain⟨es,clock,hb,hl,hs⟩:=h;rcases find_in hl s with⟨h1,h2,h3⟩|⟨j,e0,h1,h2,h3,h4,h5⟩
 ·rw[mget_no h3,h3];constructor<;>simp[Instr.lookup,run_underlying ht,Go.MapKept.run_getObj_map hb,Go.MapKept.run_checkKey (k:=.string s) hk trivial,Go.MapKept.run_findKey hk h1,hz,Result.andThen]
 ·have hf:=find_at (lkeys_nodup hl hs) h4;rw[mget,hf,h5];constructor<;>simp[Instr.lookup,run_underlying ht,Go.MapKept.run_getObj_map hb,Go.MapKept.run_checkKey (k:=.string s) hk trivial,Go.MapKept.run_findKey hk h1,Result.andThen]
theorem MapS.del (h:MapS w b l) (ht:P.underlying t=some (.map k e)) (hk:P.underlying k=some .string) (s:ByteArray) (ty u:TypeId):
  ∃w',(Builtin.delete_ #[t,u] ty #[.map (some b),.string s]).run P w= .ok (.tuple #[]) w'∧MapS w' b (mdel l s)∧Fr (fun k=>k=b) w w':=by
 have hlt:=h.lt;obtain⟨es,clock,hb,hl,hs⟩:=h;rcases find_in hl s with⟨h1,h2,h3⟩|⟨j,e0,h1,h2,h3,h4,h5⟩
 ·rw[mdel_no h3];refine⟨_,?_,⟨es,clock,(heap_set hb).1,hl,hs⟩,fr_setBlock (.map es clock) hlt⟩;simp[Builtin.delete_,run_underlying ht,Go.MapKept.run_getObj_map hb,Go.MapKept.run_checkKey (k:=.string s) hk trivial,Go.MapKept.run_findKey hk h1,Go.MapKept.run_setObj_map _ hb,Result.andThen]
 ·rw[mdel_at (lkeys_nodup hl hs) h4];refine⟨_,?_,⟨es.eraseIdxIfInBounds j,clock,(heap_set hb).1,?_,stamped_erase hs j⟩,fr_setBlock (.map (es.eraseIdxIfInBounds j) clock) hlt⟩
  ·simp[Builtin.delete_,run_underlying ht,Go.MapKept.run_getObj_map hb,Go.MapKept.run_checkKey (k:=.string s) hk trivial,Go.MapKept.run_findKey hk h1,Go.MapKept.run_setObj_map _ hb,Result.andThen]
  ·have hj:j<es.size:=(Array.getElem?_eq_some_iff.1 h2).1;have e1:(es.eraseIdxIfInBounds j).toList=es.toList.eraseIdx j:=by
    unfold Array.eraseIdxIfInBounds;rw[dif_pos hj];simp
   rw[e1,List.eraseIdx_eq_take_drop_succ,List.eraseIdx_eq_take_drop_succ,List.map_append,List.map_append,List.map_take,List.map_take,List.map_drop,List.map_drop,hl]
theorem modify_val {es:Array MapEntry} {l:List (ByteArray×Value)} (h:es.toList.map (fun e=>(e.key,e.val))=l.map (fun p=>(Value.string p.1,p.2))) {j:Nat} {e0:MapEntry} {s:ByteArray} (hj:es[j]? =some e0) (hk:e0.key= .string s) (v:Value) (f:MapEntry→MapEntry)
  (h1:(f e0).key=e0.key) (h2:(f e0).val=v):(es.modify j f).toList.map (fun e=>(e.key,e.val))=(l.set j (s,v)).map (fun p=>(Value.string p.1,p.2)):=by
 rw[List.map_set,←h,Array.toList_modify];apply List.ext_getElem?;intro i;rw[List.getElem?_map,List.getElem?_modify,List.getElem?_set,List.getElem?_map];by_cases hij:j=i
 ·subst hij;have hj2:es.toList[j]? =some e0:=by simpa using hj
  have hlt:j<es.size:=(Array.getElem?_eq_some_iff.1 hj).1;simp only[hj2,if_true,Option.map_some];simp[hlt,h1,h2,hk]
 ·simp[hij]
theorem MapS.put (h:MapS w b l) (ht:P.underlying t=some (.map k e)) (hk:P.underlying k=some .string) (s:ByteArray) (v:Value):
  ∃w',(Instr.mapUpdate t (.map (some b)) (.string s) v).run P w= .ok () w'∧MapS w' b (mput l s v)∧Fr (fun k=>k=b) w w':=by
 have hlt:=h.lt;obtain⟨es,clock,hb,hl,hs⟩:=h;rcases find_in hl s with⟨h1,h2,h3⟩|⟨j,e0,h1,h2,h3,h4,h5⟩
 ·rw[mput,h3];refine⟨_,?_,⟨_,_,(heap_set hb).1,?_,stamped_push hs h2⟩,fr_setBlock (.map (es.push ⟨.string s,v,clock⟩) (clock+1)) hlt⟩
  ·simp[Instr.mapUpdate,run_underlying ht,Go.MapKept.run_getObj_map hb,Go.MapKept.run_checkKey (k:=.string s) hk trivial,Go.MapKept.run_findKey hk h1,Go.MapKept.run_setObj_map _ hb,Result.andThen]
  ·simp[hl]
 ·rw[mput,h5,if_pos rfl,mset_at (lkeys_nodup hl hs) h4];refine⟨_,?_,⟨es.modify j (fun e=>{e with key:=.string s,val:=v}),clock,(heap_set hb).1,modify_val hl h2 h3 v _ h3.symm rfl,stamped_modify hs _ _ (fun _ _=>rfl) (fun e' _ he'=>by rw[h2] at he';cases he';exact h3.symm)⟩,fr_setBlock (.map (es.modify j (fun e=>{e with key:=.string s,val:=v})) clock) hlt⟩;simp[Instr.mapUpdate,run_underlying ht,Go.MapKept.run_getObj_map hb,Go.MapKept.run_checkKey (k:=.string s) hk trivial,Go.MapKept.run_findKey hk h1,h2,h3,run_keyThatStays (d:=.string) (k:=.string s) trivial,Go.MapKept.run_setObj_map _ hb,Result.andThen]
theorem MapS.entry (h:MapS w b l) (ht:P.underlying t=some (.map k e)) (hk:P.underlying k=some .string) (hz:∀w,(zeroValue e).run P w= .ok z w) (s:ByteArray):
  ∃(v0:Value) (st:Nat) (w':World) (es1:Array MapEntry) (clock1:Nat),(Instr.mapEntry t (.map (some b)) (.string s)).run P w= .ok (.tuple #[v0,goInt st]) w'∧w'.heap[b]? =some (.map es1 clock1)∧Fr (fun k=>k=b) w w'∧
   ∀(w2:World) (v:Value),w2.heap[b]? =some (.map es1 clock1)→∃w3,(Instr.entryStore t (.map (some b)) (goInt st) v).run P w2= .ok () w3∧MapS w3 b (mput l s v)∧Fr (fun k=>k=b) w2 w3:=by
 have hlt:=h.lt;obtain⟨es,clock,hb,hl,hs⟩:=h;have hs':=hs;obtain⟨s1,s2,_⟩:=hs';have findIdx_born:∀(es:Array MapEntry) (j:Nat) (e0:MapEntry),(es.toList.map (·.born)).Nodup→es[j]? =some e0→es.findIdx? (fun e=>((e.born:Nat):Int)==((e0.born:Nat):Int))=some j:=by
  intro es j e0 hn hj;obtain⟨hj1,hj2⟩:=Array.getElem?_eq_some_iff.1 hj;rw[Array.findIdx?_eq_some_iff_getElem];refine⟨hj1,by simp[hj2],fun i hi=>?_⟩;have hi1:i<es.size:=by omega
  simp only[beq_iff_eq,Int.natCast_inj,Bool.not_eq_true,beq_eq_false_iff_ne,ne_eq];intro hbe;have hp:=List.pairwise_iff_getElem.1 hn i j (by simpa using hi1) (by simpa using hj1) hi;simp only[List.getElem_map,Array.getElem_toList] at hp;rw[hj2] at hp;exact hp hbe
 rcases find_in hl s with⟨h1,h2,h3⟩|⟨j,e0,h1,h2,h3,h4,h5⟩
 ·refine⟨z,clock,_,es.push ⟨.string s,z,clock⟩,clock+1,?_,(heap_set hb).1,fr_setBlock _ hlt,fun w2 v hw2=>?_⟩
  ·simp[Instr.mapEntry,run_underlying ht,Go.MapKept.run_getObj_map hb,Go.MapKept.run_checkKey (k:=.string s) hk trivial,Go.MapKept.run_findKey hk h1,hz,Go.MapKept.run_setObj_map _ hb,Result.andThen]
  ·have hidx:=findIdx_born (es.push ⟨.string s,z,clock⟩) es.size ⟨.string s,z,clock⟩ (stamped_push (val:=z) hs h2).2.1 (by simp);have hmod:(es.push ⟨.string s,z,clock⟩).modify es.size (fun e=>{e with val:=v})=es.push ⟨.string s,v,clock⟩:=by
    apply Array.ext_getElem?;intro i;rw[Array.getElem?_modify,Array.getElem?_push,Array.getElem?_push];by_cases hi:es.size=i
    ·subst hi;simp
    ·simp[hi,Ne.symm hi]
   refine⟨_,?_,⟨es.push ⟨.string s,v,clock⟩,clock+1,(heap_set hw2).1,?_,stamped_push hs h2⟩,fr_setBlock _ (Array.getElem?_eq_some_iff.1 hw2).1⟩
   ·simp[Instr.entryStore,Go.MapKept.run_getObj_map hw2,asInt,asIntOf,goInt,hidx,hmod,Go.MapKept.run_setObj_map _ hw2,Result.andThen]
   ·rw[mput,h3];simp[hl]
 ·have hsame:es.modify j (fun e=>{e with key:=.string s})=es:=by
   apply Array.ext_getElem?;intro i;rw[Array.getElem?_modify];by_cases hi:j=i
   ·subst hi;rw[h2];simp only[if_true,Option.map_some,←h3]
   ·simp[hi]
  refine⟨e0.val,e0.born,_,es,clock,?_,(heap_set hb).1,fr_setBlock (.map es clock) hlt,fun w2 v hw2=>?_⟩
  ·simp[Instr.mapEntry,run_underlying ht,Go.MapKept.run_getObj_map hb,Go.MapKept.run_checkKey (k:=.string s) hk trivial,Go.MapKept.run_findKey hk h1,h2,h3,run_keyThatStays (d:=.string) (k:=.string s) trivial,hsame,Go.MapKept.run_setObj_map _ hb,Result.andThen]
  ·have hidx:=findIdx_born es j e0 s2 h2;refine⟨_,?_,⟨es.modify j (fun e=>{e with val:=v}),clock,(heap_set hw2).1,?_,stamped_modify hs _ _ (fun _ _=>rfl) (fun _ _ _=>rfl)⟩,fr_setBlock _ (Array.getElem?_eq_some_iff.1 hw2).1⟩
   ·simp[Instr.entryStore,Go.MapKept.run_getObj_map hw2,asInt,asIntOf,goInt,hidx,Go.MapKept.run_setObj_map _ hw2,Result.andThen]
   ·rw[mput,h5,if_pos rfl,mset_at (lkeys_nodup hl hs) h4];exact modify_val hl h2 h3 v _ rfl rfl
end
def letterM (c:UInt8):Bool:=(97≤c.toNat&&c.toNat≤122)||c.toNat==95
def digitM (c:UInt8):Bool:=48≤c.toNat&&c.toNat≤57
def wordsM:List ByteArray:=[⟨#[108,101,116]⟩,⟨#[115,101,99,114,101,116]⟩,⟨#[98,117,102]⟩,⟨#[105,102]⟩,⟨#[101,108,115,101]⟩,⟨#[119,104,105,108,101]⟩,⟨#[102,111,114]⟩,
 ⟨#[118,105,101,119]⟩,⟨#[101,100,105,116]⟩,⟨#[109,111,118,101]⟩,⟨#[111,112,101,110]⟩,⟨#[99,97,108,108]⟩,⟨#[115,101,97,108]⟩,⟨#[102,110]⟩,⟨#[114,101,116,117,114,110]⟩,⟨#[110,117,109]⟩]
def inM (l:List ByteArray) (s:ByteArray):Bool:=l.any fun x=>sq x s
def wordM (s:ByteArray):Bool:=inM wordsM s
def partM (c:UInt8):Bool:=letterM c||digitM c
def namedM (s:ByteArray):Bool:= !emp s&&decide (s.size≤16)&&letterM (s.data.getD 0 0)&& !wordM s&&s.data.toList.all partM
theorem letter_any (c:UInt8) (w:World):Calls Tryz.prog 107 #[vu8 c] w fun e w'=>e= .returned (.bool (letterM c))∧w=w':=by
 have hc:=c.toNat_lt;go_enter Tryz.func107,Tryz.ntmps107;go_wp2_with fail;all_goals
  go_ret;refine⟨ret_bool ?_,rfl⟩;rw[Bool.eq_iff_iff];simp[letterM];try omega
theorem digit_any (c:UInt8) (w:World):Calls Tryz.prog 109 #[vu8 c] w fun e w'=>e= .returned (.bool (digitM c))∧w=w':=by
 have hc:=c.toNat_lt;go_enter Tryz.func109,Tryz.ntmps109;go_wp2_with fail;all_goals
  go_ret;refine⟨ret_bool ?_,rfl⟩;rw[Bool.eq_iff_iff];simp[digitM];try omega
theorem in_any (ok:Nat→Prop) (A:Option Addr) (c:Nat) (l:List ByteArray) (s:ByteArray) (w:World) (h:RdRows ok w 1 A 0 (l.map strD)) (hc:l.length≤140737488355328):
  Calls Tryz.prog 148 #[.slice A l.length c,.string s] w fun e w'=>e= .returned (.bool (inM l s))∧w=w':=by
 go_enter Tryz.func148,Tryz.ntmps148;go_wp2_with fail
 go_loop [5] (fun i=>∃k:Nat,i= .int .i64 k∧k≤l.length∧∀j,j<k→∀hj:j<l.length,sq l[j] s=false) (fun i=>l.length-(intOf i).toNat)
 case atStart=>exact⟨0,rfl,by omega,fun j hj=>by omega⟩
 case round=>
  obtain⟨k,rfl,hk,hno⟩:=hrel;have HN:=Zh hno;clear hno;by_cases hlt:k<l.length
  ·obtain⟨b,o,rfl,hb,h0⟩:=at_str h k hlt;have H:=Zh h;clear h;cases hq:sq l[k] s with
   |true=>
    have hq':=hq;rw[←tosq] at hq';have HQ:=Zh hq;clear hq;go_wp2_with fail;go_ret;exact⟨ret_bool (any_true_of k hlt HQ.out).symm,rfl⟩
   |false=>
    have hq':=hq;rw[←tosq] at hq';have HQ:=Zh hq;clear hq;go_wp2_with fail
    go_round
    case rel=>exact⟨k+1,by go_num,by omega,till HN.out fun _=>HQ.out⟩
    case measure=>simp[intOf];omega
  ·have H:=Zh h;clear h;go_wp2_with fail;go_ret;exact⟨ret_bool (any_false_of fun j hj=>HN.out j (by omega) hj).symm,rfl⟩
theorem words_any (w:World):Calls Tryz.prog 149 #[] w fun e w'=>∃b c,e= .returned (.slice (some ⟨b,0,none⟩) 16 c)∧Fr Non w w'∧RdRows (fun _=>True) w' 1 (some ⟨b,0,none⟩) 0 (wordsM.map strD):=by
 go_enter Tryz.func149,Tryz.ntmps149;go_wp2_with fail;go_ret;exact⟨w.heap.size,16,rfl,(Fr.refl _ _).alloc _,rd_strs _ _ _ rfl⟩
theorem word_any (s:ByteArray) (w:World):Calls Tryz.prog 108 #[.string s] w fun e w'=>e= .returned (.bool (wordM s))∧Fr Non w w':=by
 go_enter Tryz.func108,Tryz.ntmps108;go_wp2_with fail;refine(words_any _).mono ?_;rintro e w1 ⟨b,c,rfl,hf,hr⟩;have H:=Zh hr;clear hr;go_wp2_with fail;refine(in_any (fun _=>True) _ c wordsM s _ H.out (by simp[wordsM])).mono ?_;rintro e w2 ⟨rfl,rfl⟩;go_wp2_with fail;go_ret;exact⟨rfl,hf⟩
theorem named_any (s:ByteArray) (w:World):Calls Tryz.prog 73 #[.string s] w fun e w'=>e= .returned (.bool (namedM s))∧Fr Non w w':=by
 cases he:emp s with
 |true=>
  have he':=he;rw[←toemp] at he';go_enter Tryz.func73,Tryz.ntmps73;go_wp2_with fail;go_ret;exact⟨ret_bool (by simp[namedM,he]),Zf _⟩
 |false=>
  have he':=he;rw[←toemp] at he';have hp:0<s.size:=by
   rcases Nat.eq_zero_or_pos s.size with h|h
   ·simp[emp,h] at he
   ·exact h
  have hd:s.data.getD 0 0=s[0]:=by have hp':0<s.data.size:=hp;rw[Array.getD,dif_pos hp'];rfl
  by_cases h16:s.size≤16
  ·have h16':decide ((16:Int)<(s.size:Int))=false:=by simp;omega
   cases hl:letterM s[0] with
   |false=>
    have HF:=Zh (show namedM s=false by simp[namedM,hd,hl]);clear hd;have H1:=Zh he;clear he;go_enter Tryz.func73,Tryz.ntmps73;go_wp2_with fail;refine(letter_any _ _).mono ?_;rintro e w1 ⟨rfl,rfl⟩;go_wp2_with fail;go_ret;exact⟨ret_bool HF.out.symm,Zf _⟩
   |true=>
    cases hw:wordM s with
    |true=>
     have HF:=Zh (show namedM s=false by simp[namedM,hw]);clear hd;have H1:=Zh he;clear he;go_enter Tryz.func73,Tryz.ntmps73;go_wp2_with fail;refine(letter_any _ _).mono ?_;rintro e w1 ⟨rfl,rfl⟩;go_wp2_with fail;refine(word_any _ _).mono ?_;rintro e w1 ⟨rfl,hf⟩;go_wp2_with fail;go_ret;exact⟨ret_bool HF.out.symm,hf⟩
    |false=>
     have HF:=Zh (show namedM s=s.data.toList.all partM by simp[namedM,he,h16,hd,hl,hw]);clear hd;have H1:=Zh he;clear he;go_enter Tryz.func73,Tryz.ntmps73;go_wp2_with fail;refine(letter_any _ _).mono ?_;rintro e w1 ⟨rfl,rfl⟩;go_wp2_with fail;refine(word_any _ _).mono ?_;rintro e w1 ⟨rfl,hf⟩;go_wp2_with fail
     go_loop [3] (fun i=>∃k:Nat,i= .int .i64 k∧k≤s.size∧∀j,j<k→∀hj:j<s.data.toList.length,partM s.data.toList[j]=true) (fun i=>s.size-(intOf i).toNat)
     case atStart=>exact⟨0,rfl,by omega,fun j hj=>by omega⟩
     case round=>
      obtain⟨k,rfl,hk,hno⟩:=hrel;have HN:=Zh hno;clear hno;by_cases hlt:k<s.size
      ·have hlt':k<s.data.size:=hlt;have hsk:s.data.toList[k]'(by simpa using hlt')=s[k]:=rfl;have HS:=Zh hsk;clear hsk;cases hlk:letterM s[k] with
       |true=>
        go_wp2_with fail;refine(letter_any _ _).mono ?_;rintro e w1 ⟨rfl,rfl⟩;go_wp2_with fail
        go_round
        case rel=>exact⟨k+1,by go_num,by omega,till HN.out fun _=>by rw[HS.out];simp[partM,hlk]⟩
        case measure=>simp[intOf];omega
       |false=>
        cases hdk:digitM s[k] with
        |true=>
         go_wp2_with fail;refine(letter_any _ _).mono ?_;rintro e w1 ⟨rfl,rfl⟩;go_wp2_with fail;refine(digit_any _ _).mono ?_;rintro e w1 ⟨rfl,rfl⟩;go_wp2_with fail
         go_round
         case rel=>exact⟨k+1,by go_num,by omega,till HN.out fun _=>by rw[HS.out];simp[partM,hdk]⟩
         case measure=>simp[intOf];omega
        |false=>
         go_wp2_with fail;refine(letter_any _ _).mono ?_;rintro e w1 ⟨rfl,rfl⟩;go_wp2_with fail;refine(digit_any _ _).mono ?_;rintro e w1 ⟨rfl,rfl⟩;go_wp2_with fail;go_ret;exact⟨ret_bool (by rw[HF.out];exact(all_false_of k (by simpa using hlt') (by rw[HS.out];simp[partM,hlk,hdk])).symm),hf⟩
      ·go_wp2_with fail;go_ret;exact⟨ret_bool (by rw[HF.out];exact(all_true_of fun j hj=>HN.out j (by have:s.data.size=s.size:=rfl;simp at hj;omega) hj).symm),hf⟩
  ·have HF:=Zh (show namedM s=false by simp[namedM,h16]);have H1:=Zh he;clear he;go_enter Tryz.func73,Tryz.ntmps73;go_wp2_with fail;go_ret;exact⟨ret_bool HF.out.symm,Zf _⟩
def signsM:List ByteArray:=[⟨#[]⟩,⟨#[43]⟩,⟨#[45]⟩,⟨#[60,60]⟩,⟨#[60,36]⟩,⟨#[60]⟩,⟨#[94]⟩,⟨#[62,62]⟩,⟨#[62,62,62]⟩,⟨#[124]⟩,⟨#[38]⟩,⟨#[42]⟩,⟨#[42,94]⟩,⟨#[47]⟩,⟨#[37]⟩]
def signM (op:UInt8):ByteArray:=signsM.getD op.toNat ⟨#[]⟩
theorem sign_any (op:UInt8) (w:World):Calls Tryz.prog 182 #[vu8 op] w fun e w'=>e= .returned (.string (signM op))∧Fr Non w w':=by
 have hc:=op.toNat_lt;by_cases h:op.toNat<15
 ·have hx:∀hz,(signsM.map Value.string)[op.toNat]'hz= .string (signM op):=by
   intro h';rw[List.getElem_map,signM,List.getD_eq_getElem?_getD,List.getElem?_eq_getElem (by simpa using h')];rfl
  have HX:=Zh hx;clear hx;go_enter Tryz.func182,Tryz.ntmps182;go_wp2_with fail;go_ret;exact⟨congrArg Ending.returned (HX.out _),(Zf _).alloc _⟩
 ·have hx:signM op=⟨#[]⟩:=by rw[signM,List.getD_eq_getElem?_getD,List.getElem?_eq_none (by simp[signsM];omega)];rfl
  have HX:=Zh hx;clear hx;go_enter Tryz.func182,Tryz.ntmps182;go_wp2_with fail;go_ret;exact⟨by rw[HX.out];rfl,(Zf _).alloc _⟩
def shapeM (e:Ex):Bool:=
 if e.kind.toNat=1 then emp e.name&&e.op.toNat==0&&e.kids.length==0
 else if e.kind.toNat=2∨e.kind.toNat=4 then e.num.toNat==0&&namedM e.name&&e.op.toNat==0&&e.kids.length==0
 else if e.kind.toNat=3 then e.num.toNat==0&&emp e.name&& !emp (signM e.op)&&e.kids.length==2
 else if e.kind.toNat=5 then e.num.toNat==0&&namedM e.name&&e.op.toNat==0&&e.kids.length==1
 else false
theorem shape_any (k:UInt8) (n:UInt64) (s:ByteArray) (o:UInt8) (l:List Ex) (A:Option Addr) (c:Nat) (w:World):
  Calls Tryz.prog 173 #[.agg #[vu8 k,vu64 n,.string s,vu8 o,.slice A l.length c]] w fun e w'=>e= .returned (.bool (shapeM (.mk k n s o l)))∧Fr Non w w':=by
 go_enter Tryz.func173,Tryz.ntmps173;go_wp2_with fail;refine(named_any _ _).mono ?_;rintro e w1 ⟨rfl,hf⟩;have g0:=box_cells hf (non _) 0 _ rfl;have g1:=box_cells hf (non _) 1 _ rfl;have g2:=box_cells hf (non _) 2 _ rfl;have g3:=box_cells hf (non _) 3 _ rfl;have g4:=box_cells hf (non _) 4 _ rfl;have HF:=Zh (box_fr hf);go_wp2_with fail;all_goals try (refine(sign_any _ _).mono ?_;rintro e w2 ⟨rfl,hf2⟩;have g4':=hf2.cell' g4 (non _);go_wp2_with fail)
 all_goals go_ret
 all_goals (refine⟨ret_bool ?_,?_⟩;rotate_left;first|exact HF.out|exact HF.out.trans hf2)
 all_goals clear hf g0 g1 g2 g3 g4
 all_goals rw[Bool.eq_iff_iff]
 all_goals simp_all [shapeM,Ex.kind,Ex.op,Ex.name,Ex.num,Ex.kids,←toemp,i0,i1,i2,i3,i4,i5]
mutual
def Ex.may:Ex→Nat→Bool
 | .mk k n s o l,deep=>decide (deep≤40)&&shapeM (.mk k n s o l)&&Ex.mays l (deep+1)
def Ex.mays:List Ex→Nat→Bool
 |[],_=>true
 |e::l,deep=>Ex.may e deep&&Ex.mays l deep
end
theorem mays_all:∀(l:List Ex) (d:Nat),Ex.mays l d=l.all (Ex.may · d)
 |[],_=>rfl
 |e::l,d=>by simp[Ex.mays,mays_all l d]
mutual
def Ex.size:Ex→Nat
 | .mk _ _ _ _ l=>1+Ex.sizes l
def Ex.sizes:List Ex→Nat
 |[]=>0
 |e::l=>e.size+Ex.sizes l
end
theorem size_le:∀(l:List Ex) (k:Nat) (h:k<l.length),l[k].size≤Ex.sizes l
 |e::l,0,_=>by simp[Ex.sizes]
 |e::l,k+1,h=>by have:=size_le l k (by simpa using h);simp[Ex.sizes];omega
theorem ex_eta (e:Ex):Ex.mk e.kind e.num e.name e.op e.kids=e:=by cases e;rfl
abbrev exV (k:UInt8) (n:UInt64) (s:ByteArray) (o:UInt8) (A:Option Addr) (len c:Nat):Value:=.agg #[vu8 k,vu64 n,.string s,vu8 o,.slice A len c]
theorem may_any (N:Nat):∀(k:UInt8) (n:UInt64) (s:ByteArray) (o:UInt8) (l:List Ex) (ok:Nat→Prop) (A:Option Addr) (c deep:Nat) (w:World),Ex.size (.mk k n s o l)≤N→RdRows ok w 5 A 0 (Ex.ds l)→l.length≤c→l.length*64≤reach→deep≤1000→
  Calls Tryz.prog 150 #[exV k n s o A l.length c,.int .i64 deep] w fun e w'=>e= .returned (.bool (Ex.may (.mk k n s o l) deep))∧Fr Non w w':=by
 induction N with
 |zero=>intro k n s o l ok A c deep w h;simp[Ex.size] at h
 |succ N ih=>
  intro k n s o l ok A c deep w hN hr hlc hc hd;have hlen:l.length≤140737488355328:=by unfold reach at hc;omega
  have hN':Ex.sizes l≤N:=by simp[Ex.size] at hN;omega
  clear hN;by_cases h40:deep≤40
  ·have h40':decide ((40:Int)<(deep:Int))=false:=by simp;omega
   cases hs:shapeM (.mk k n s o l) with
   |false=>
    have HF:=Zh (show Ex.may (.mk k n s o l) deep=false by simp[Ex.may,hs]);have HS:=Zh hs;clear hs;go_enter Tryz.func150,Tryz.ntmps150;go_wp2_with fail;refine(shape_any _ _ _ _ _ _ _ _).mono ?_;rintro e w1 ⟨rfl,hf⟩;rw[HS.out];go_wp2_with fail;go_ret;exact⟨ret_bool HF.out.symm,box_fr hf⟩
   |true=>
    have HF:=Zh (show Ex.may (.mk k n s o l) deep=l.all (Ex.may · (deep+1)) by simp[Ex.may,hs,h40,mays_all]);have HS:=Zh hs;clear hs;go_enter Tryz.func150,Tryz.ntmps150;go_wp2_with fail;refine(shape_any _ _ _ _ _ _ _ _).mono ?_;rintro e w1 ⟨rfl,hf⟩;rw[HS.out];have g4:=box_cells hf (non _) 4 _ rfl;have hr1:=hr.fr (box_fr hf) (fun _ _=>non _) (fun _ h=>h);have HB:=Zh (box_fr hf);clear hf;have HR:=Zh hr1;clear hr hr1;have IH:=Zh ih;clear ih;go_wp2_with fail
    go_loopw [5] (fun i wr=>∃j:Nat,i= .int .i64 j∧j≤l.length∧Fr Non w1 wr∧∀q,q<j→∀hq:q<l.length,Ex.may l[q] (deep+1)=true) (fun i _=>l.length-(intOf i).toNat)
    case atStart=>exact⟨0,rfl,by omega,Zf _,fun j hj=>by omega⟩
    case round=>
     obtain⟨j,rfl,hj,hfr,hno⟩:=hrel;have HN:=Zh hno;clear hno;have g4':=hfr.cell' g4 (non _);by_cases hlt:j<l.length
     ·have hr2:=HR.out.fr hfr (fun _ _=>non _) (fun _ h=>h);obtain⟨b,o',A',c',rfl,hb,e0,e1,e2,e3,e4,p1,p2,p3⟩:=at_ex hr2 j hlt;have P3:=Zh p3;clear p3 hr2;have HQ:=Zh (size_le l j hlt);go_wp2_with fail;refine(IH.out _ _ _ _ _ ok A' c' (deep+1) _ (by rw[ex_eta];have:=HQ.out;omega) P3.out p1 p2 (by omega)).mono ?_;rintro e w2 ⟨rfl,hf2⟩;rw[ex_eta];generalize hm:Ex.may l[j] (deep+1)=m;cases m with
      |true=>
       have HM:=Zh hm;clear hm;go_wp2_with fail;go_roundw
       case rel=>exact⟨j+1,by go_num,by omega,hfr.trans hf2,till HN.out fun _=>HM.out⟩
       case measure=>simp[intOf];omega
      |false=>
       have HM:=Zh hm;clear hm;go_wp2_with fail;go_ret;exact⟨ret_bool (by rw[HF.out];exact(all_false_of j hlt HM.out).symm),(HB.out.trans hfr).trans hf2⟩
     ·go_wp2_with fail;go_ret;exact⟨ret_bool (by rw[HF.out];exact(all_true_of fun q hq=>HN.out q (by omega) hq).symm),HB.out.trans hfr⟩
  ·go_enter Tryz.func150,Tryz.ntmps150;go_wp2_with fail;go_ret;exact⟨ret_bool (by simp[Ex.may,h40]),(Zf _).alloc _⟩
theorem mayE_any (k:UInt8) (n:UInt64) (s:ByteArray) (o:UInt8) (l:List Ex) (ok:Nat→Prop) (A:Option Addr) (c:Nat) (w:World) (hr:RdRows ok w 5 A 0 (Ex.ds l)) (h1:l.length≤c) (h2:l.length*64≤reach):
  Calls Tryz.prog 110 #[exV k n s o A l.length c] w fun e w'=>e= .returned (.bool (Ex.may (.mk k n s o l) 1))∧Fr Non w w':=by
 have HR:=Zh (hr.fr ((Zf w).alloc (.cells #[vu8 k,vu64 n,.string s,vu8 o,.slice A l.length c] 48)) (fun _ _=>non _) (fun _ h=>h));clear hr;go_enter Tryz.func110,Tryz.ntmps110;go_wp2_with fail;refine(may_any (Ex.size (.mk k n s o l)) _ _ _ _ _ ok A c 1 _ (Nat.le_refl _) HR.out h1 h2 (by omega)).mono ?_;rintro e w2 ⟨rfl,hf⟩;go_wp2_with fail;go_ret;exact⟨rfl,box_fr hf⟩
theorem copyE_any (N:Nat):∀(k:UInt8) (n:UInt64) (s:ByteArray) (o:UInt8) (l:List Ex) (ok:Nat→Prop) (A:Option Addr) (c:Nat) (w:World),Ex.size (.mk k n s o l)≤N→
   RdRows ok w 5 A 0 (Ex.ds l)→l.length≤c→l.length*64≤reach→
  Calls Tryz.prog 56 #[exV k n s o A l.length c] w fun e w'=>∃A' c',e= .returned (exV k n s o A' l.length c')∧Fr Non w w'∧l.length≤c'∧RdRows (New w.heap.size w') w' 5 A' 0 (Ex.ds l):=by
 induction N with
 |zero=>intro k n s o l ok A c w h;simp[Ex.size] at h
 |succ N ih=>
  intro k n s o l ok A c w hN hr hlc hc;have hlen:l.length≤140737488355328:=by unfold reach at hc;omega
  have hN':Ex.sizes l≤N:=by simp[Ex.size] at hN;omega
  clear hN;have IH:=Zh ih;clear ih;have HR:=Zh hr;clear hr;go_enter Tryz.func56,Tryz.ntmps56;go_wp2_with fail;obtain⟨W1,HW1⟩:∃W1,W1=(w.alloc (.cells #[vu8 k,vu64 n,.string s,vu8 o,.slice A l.length c] 48)).alloc (.cells #[.int .u8 0,.int .u64 0,.string ⟨#[]⟩,.int .u8 0,.slice none 0 0] 48):=⟨_,rfl⟩
  go_loopw [3,4] (fun v i wr=>∃j:Nat,i= .int .i64 j∧j≤l.length∧Fr Non W1 wr∧Own (w.heap.size+2) 48 5 wr v (Ex.ds (l.take j))) (fun _ i _=>l.length-(intOf i).toNat)
  case atStart=>exact⟨0,rfl,by omega,HW1▸Zf _,Own.nil _ _ _ _⟩
  case round=>
   obtain⟨j,rfl,hj,hfr,hown⟩:=hrel;have hz:w.heap.size+2≤wr.heap.size:=by have:=hfr.size;rw[HW1] at this;simpa using this
   have hb1:wr.heap[w.heap.size]? =some (.cells #[vu8 k,vu64 n,.string s,vu8 o,.slice A l.length c] 48 (0,0)):=Zb (by rw[HW1];exact blk_old (blk_new _ _ _)) hfr (non _);have hb2:wr.heap[w.heap.size+1]? =some (.cells #[.int .u8 0,.int .u64 0,.string ⟨#[]⟩,.int .u8 0,.slice none 0 0] 48 (0,0)):=Zb (by rw[HW1];exact blk_new' (by simp) _ _) hfr (non _);have g4:=(Zc hb1).1 4 _ rfl;have hf0:Fr Non w W1:=by rw[HW1];exact((Zf w).alloc _).alloc _
   have hW1:w.heap.size+2≤W1.heap.size:=by rw[HW1];simp
   have hW2:W1.heap.size≤w.heap.size+2:=by rw[HW1];simp
   clear HW1;obtain⟨A3,c3,rfl,hc3⟩:=hown.slice;have hn:(Ex.ds (l.take j)).length=j:=by simp;omega
   rw[hn] at hc3 hown ⊢;have HN:=Zh hn;clear hn;by_cases hlt:j<l.length
   ·obtain⟨b,o1,A1,c1,rfl,hb,e0,e1,e2,e3,e4,p1,p2,p3⟩:=at_ex (HR.out.fr (hf0.trans hfr) (fun _ _=>non _) (fun _ h=>h)) j hlt;have P3:=Zh p3;clear p3;have HQ:=Zh (size_le l j hlt);have HO:=Zh hown;clear hown;have HF:=Zh hfr;clear hfr;have HF0:=Zh hf0;clear hf0;have HB1:=Zh hb1;clear hb1;have HB2:=Zh hb2;clear hb2;go_wp2_with fail;refine(IH.out _ _ _ _ _ ok A1 c1 _ (by rw[ex_eta];have:=HQ.out;omega) P3.out p1 p2).mono ?_;rintro e w2 ⟨A2,c2,rfl,hf2,hc2,hr2⟩;have HR2:=Zh hr2;clear hr2;have HF2:=Zh hf2;clear hf2;go_wp2_with (at_builtin;refine app_ex rfl _ _ rfl (w.heap.size+2) (.slice A3 j c3) (Ex.ds (l.take j)) rfl ?o ⟨w2.heap.size,0,none⟩ 1 1 rfl [l[j].d] _ ?ch rfl (new_cells _ _ _) (one_ex _ _ _ _ _ _ _) ?b1 ?b2 ?b3 ?k)
    case o=>exact HO.out.fr (HF2.out.alloc _) (fun _ _=>non _)
    case ch=>exact chunk_ex l[j] hc2 p2 (HR2.out.fr ((Zf w2).alloc _) (fun _ _=>non _) (new_own HO.out.lt (by omega) (by simp)))
    case b1=>rw[HN.out];exact(room64 (by omega)).1
    case b2=>rw[HN.out];exact(room64 (by omega)).2
    case b3=>have:=HF2.out.size;simp;omega
    case k=>
     intro v' w' hown' hfr';have HO':=Zh hown';clear hown';have HF':=Zh hfr';clear hfr';go_wp2_with fail;go_roundw
     case rel=>exact⟨j+1,by go_num,by omega,((HF.out.trans HF2.out).alloc _).then HF'.out (fun k hk ht=>by have:=ht.1;omega),by rw[take_snoc _ _ hlt,Ex.ds_eq,List.map_append,←Ex.ds_eq];exact HO'.out⟩
     case measure=>simp[intOf];omega
   ·have HO:=Zh hown;clear hown;have HF:=Zh hfr;clear hfr;have HF0:=Zh hf0;clear hf0;have g0:=(Zc hb1).1 0 _ rfl;have g1:=(Zc hb1).1 1 _ rfl;have g2:=(Zc hb1).1 2 _ rfl;have g3:=(Zc hb1).1 3 _ rfl;have gf:=(Zc hb1).2 4;have k0:=(Zc hb2).1 0 _ rfl;have k1:=(Zc hb2).1 1 _ rfl;have k2:=(Zc hb2).1 2 _ rfl;have k3:=(Zc hb2).1 3 _ rfl;have k4:=(Zc hb2).1 4 _ rfl;have kf:=(Zc hb2).2;clear hb1 hb2;go_wp2_with fail;refine bodyPost_ret (v:=exV k n s o A3 j c3) ?_ rfl ?_
    ·simp[results,Tryz.results56,go_sem,k0,k1,k2,k3,k4]
    ·obtain rfl:j=l.length:=by omega
     refine⟨A3,c3,rfl,?_,hc3,?_⟩
     ·repeat (first|with_reducible exact HF0.out.trans HF.out|(with_reducible refine Fr.setCell ?_ _ _ ?_;rotate_left;exact .inr (by simp)))
     ·have h3:=HO.out.rows;rw[List.take_length] at h3;refine h3.fr (S:=fun k=>k<w.heap.size+2) ?_ (fun b hb=>by have:=hb.1;omega) (fun b hb=>⟨by have:=hb.1;omega,by simp;exact hb.2⟩)
      repeat (first|with_reducible exact Fr.refl _ _|(with_reducible refine Fr.setCell ?_ _ _ ?_;rotate_left;exact .inl (by simp)))
theorem copyX_any (e:Ex) (ok:Nat→Prop) (A:Option Addr) (c:Nat) (w:World) (hr:RdRows ok w 5 A 0 (Ex.ds e.kids)) (h1:e.kids.length≤c) (h2:e.kids.length*64≤reach):
  Calls Tryz.prog 56 #[exV e.kind e.num e.name e.op A e.kids.length c] w fun r w'=>∃A' c',r= .returned (exV e.kind e.num e.name e.op A' e.kids.length c')∧Fr Non w w'∧e.kids.length≤c'∧RdRows (New w.heap.size w') w' 5 A' 0 (Ex.ds e.kids):=
 copyE_any e.size _ _ _ _ _ ok A c w (by rw[ex_eta];exact Nat.le_refl _) hr h1 h2
theorem copyExprs_any (l:List Ex) (ok:Nat→Prop) (A:Option Addr) (c:Nat) (w:World) (hr:RdRows ok w 5 A 0 (Ex.ds l)) (hlc:l.length≤c) (hc:l.length*64≤reach):
  Calls Tryz.prog 38 #[.slice A l.length c] w fun r w'=>∃A' c',r= .returned (.slice A' l.length c')∧Fr Non w w'∧l.length≤c'∧RdRows (New w.heap.size w') w' 5 A' 0 (Ex.ds l):=by
 have hlen:l.length≤140737488355328:=by unfold reach at hc;omega
 have HR:=Zh hr;clear hr;go_enter Tryz.func38,Tryz.ntmps38;go_wp2_with fail
 go_loopw [3,4] (fun v i wr=>∃j:Nat,i= .int .i64 j∧j≤l.length∧Fr Non w wr∧Own w.heap.size 48 5 wr v (Ex.ds (l.take j))) (fun _ i _=>l.length-(intOf i).toNat)
 case atStart=>exact⟨0,rfl,by omega,Zf _,Own.nil _ _ _ _⟩
 case round=>
  obtain⟨j,rfl,hj,hfr,hown⟩:=hrel;have hz:w.heap.size≤wr.heap.size:=hfr.size;obtain⟨A3,c3,rfl,hc3⟩:=hown.slice;have hn:(Ex.ds (l.take j)).length=j:=by simp;omega
  rw[hn] at hc3 hown ⊢;have HN:=Zh hn;clear hn;by_cases hlt:j<l.length
  ·obtain⟨b,o1,A1,c1,rfl,hb,e0,e1,e2,e3,e4,p1,p2,p3⟩:=at_ex (HR.out.fr hfr (fun _ _=>non _) (fun _ h=>h)) j hlt;have P3:=Zh p3;clear p3;have HO:=Zh hown;clear hown;have HF:=Zh hfr;clear hfr;go_wp2_with fail;refine(copyX_any l[j] ok A1 c1 _ P3.out p1 p2).mono ?_;rintro e w2 ⟨A2,c2,rfl,hf2,hc2,hr2⟩;have HR2:=Zh hr2;clear hr2;have HF2:=Zh hf2;clear hf2;go_wp2_with (at_builtin;refine app_ex rfl _ _ rfl w.heap.size (.slice A3 j c3) (Ex.ds (l.take j)) rfl ?o ⟨w2.heap.size,0,none⟩ 1 1 rfl [l[j].d] _ ?ch rfl (new_cells _ _ _) (one_ex _ _ _ _ _ _ _) ?b1 ?b2 ?b3 ?k)
   case o=>exact HO.out.fr (HF2.out.alloc _) (fun _ _=>non _)
   case ch=>exact chunk_ex l[j] hc2 p2 (HR2.out.fr ((Zf w2).alloc _) (fun _ _=>non _) (new_own HO.out.lt (by omega) (by simp)))
   case b1=>rw[HN.out];exact(room64 (by omega)).1
   case b2=>rw[HN.out];exact(room64 (by omega)).2
   case b3=>have:=HF2.out.size;simp;omega
   case k=>
    intro v' w' hown' hfr';have HO':=Zh hown';clear hown';have HF':=Zh hfr';clear hfr';go_wp2_with fail;go_roundw
    case rel=>exact⟨j+1,by go_num,by omega,((HF.out.trans HF2.out).alloc _).then HF'.out (fun k hk ht=>by have:=ht.1;omega),by rw[take_snoc _ _ hlt,Ex.ds_eq,List.map_append,←Ex.ds_eq];exact HO'.out⟩
    case measure=>simp[intOf];omega
  ·have HO:=Zh hown;clear hown;have HF:=Zh hfr;clear hfr;go_wp2_with fail;go_ret;obtain rfl:j=l.length:=by omega
   have h3:=HO.out.rows;rw[List.take_length] at h3;exact⟨A3,c3,rfl,HF.out,hc3,h3⟩
mutual
def St.size:St→Nat
 | .mk _ _ _ _ _ _ _ body els=>1+St.sizes body+St.sizes els
def St.sizes:List St→Nat
 |[]=>0
 |s::l=>s.size+St.sizes l
end
theorem St.size_eq (s:St):s.size=1+St.sizes s.body+St.sizes s.els:=by cases s;rfl
theorem ssize_le:∀(l:List St) (k:Nat) (h:k<l.length),l[k].size≤St.sizes l
 |e::l,0,_=>by simp[St.sizes]
 |e::l,k+1,h=>by have:=ssize_le l k (by simpa using h);simp[St.sizes];omega
theorem copySts_any (N:Nat):∀(l:List St) (ok:Nat→Prop) (A:Option Addr) (c:Nat) (w:World),St.sizes l≤N→(∀k,ok k→k<w.heap.size)→RdRows ok w 9 A 0 (St.ds l)→l.length≤c→l.length*144≤reach→
  Calls Tryz.prog 37 #[.slice A l.length c] w fun r w'=>∃A' c',r= .returned (.slice A' l.length c')∧Fr Non w w'∧l.length≤c'∧RdRows (New w.heap.size w') w' 9 A' 0 (St.ds l):=by
 induction N with
 |zero=>
  intro l ok A c w hN hok hr hlc hc;obtain rfl:l=[]:=by cases l with|nil=>rfl|cons s l=>cases s;simp[St.sizes,St.size] at hN
  go_enter Tryz.func37,Tryz.ntmps37;go_wp2_with fail;refine wp_loop_rounds 1 ?_;rw[rounds_succ];go_wp2_with fail;go_ret;exact⟨none,0,rfl,Zf _,Nat.le_refl _,trivial⟩
 |succ N ih=>
 intro l ok A c w hN hok hr hlc hc;have hlen:l.length≤140737488355328:=by unfold reach at hc;omega
 have HR:=Zh hr;clear hr;have HK:=Zh hok;clear hok;have IH:=Zh ih;clear ih;go_enter Tryz.func37,Tryz.ntmps37;go_wp2_with fail
 go_loopw [3,4] (fun v i wr=>∃j:Nat,i= .int .i64 j∧j≤l.length∧Fr Non w wr∧Own w.heap.size 42 9 wr v (St.ds (l.take j))) (fun _ i _=>l.length-(intOf i).toNat)
 case atStart=>exact⟨0,rfl,by omega,Zf _,Own.nil _ _ _ _⟩
 case round=>
  obtain⟨j,rfl,hj,hfr,hown⟩:=hrel;have hz:w.heap.size≤wr.heap.size:=hfr.size;obtain⟨A0,c0,rfl,hc0⟩:=hown.slice;have hn:(St.ds (l.take j)).length=j:=by simp;omega
  rw[hn] at hc0 hown ⊢;have HN:=Zh hn;clear hn;by_cases hlt:j<l.length
  ·have hokr:∀k,ok k→k<wr.heap.size:=fun k h=>Nat.lt_of_lt_of_le (HK.out k h) hz;have HKR:=Zh hokr;clear hokr;obtain⟨b,o1,A1,c1,A2,c2,A3,c3,A4,c4,rfl,hb,e0,e1,e2,e3,e4,e5,e6,e7,e8,⟨p1,q1,r1⟩,⟨p2,q2,r2⟩,⟨p3,q3,r3⟩,⟨p4,q4,r4⟩⟩:=at_st (HR.out.fr hfr (fun _ _=>non _) (fun _ h=>h)) j hlt;have R1:=Zh r1;clear r1;have R2:=Zh r2;clear r2;have R3:=Zh r3;clear r3;have R4:=Zh r4;clear r4;have HQ:=Zh (ssize_le l j hlt);have HO:=Zh hown;clear hown;have HF:=Zh hfr;clear hfr;go_wp2_with fail;refine(copyExprs_any l[j].ex ok A1 c1 _ (R1.out.fr ((Zf wr).alloc _) (fun _ _=>non _) (fun _ h=>h)) p1 q1).mono ?_;rintro e w2 ⟨A1',c1',rfl,hf2,hl1,hr1⟩;have hb2:=Zb (blk_new _ _ _) hf2 (non _);have HR1:=Zh hr1;clear hr1;have HF2:=Zh (box_fr hf2);clear hf2;have g5:=(Zc hb2).1 5 _ rfl;have g6:=(Zc hb2).1 6 _ rfl;have gf:=(Zc hb2).2;have HB2:=Zh hb2;clear hb2;go_wp2_with (at_builtin;refine appX_str rfl _ _ rfl ok w2.heap.size (.slice none 0 0) [] rfl (OwnX.nil _ _ _ _ _) ?okb A2 c2 (l[j].args.map strD) (by rw[List.length_map];rfl) ?src (one_strs _) ?b1 ?b2 ?b3 ?k)
   case okb=>intro k hk;have:=HKR.out k hk;have:=HF2.out.size;omega
   case src=>exact R2.out.fr (HF2.out.setCell _ _ (.inr (Nat.le_refl _))) (fun _ _=>non _) (fun _ h=>h)
   case b1=>have:=(room16 q2).1;simp;omega
   case b2=>have:=(room16 q2).2;simp;omega
   case b3=>simp
   case k=>
   intro v3 w3 hown3 hf3;obtain⟨A2',c2',rfl,hl2⟩:=hown3.slice;have hn3:(l[j].args.map strD).length=l[j].args.length:=List.length_map _;rw[hn3] at hown3 hl2 ⊢;clear hn3;have hr2:=hown3.rows_strs;have hf3':Fr Non (w2.setCell ⟨wr.heap.size,5,none⟩ (.slice A1' l[j].ex.length c1')) w3:=hf3.mono fun k _ h=>by cases h.2
   have hb3:=Zb (blk_set HB2.out 5 (.slice A1' l[j].ex.length c1')) hf3' (non _);have HR2:=Zh hr2;clear hr2 hown3 hf3;have HF3:=Zh ((HF2.out.setCell ⟨wr.heap.size,5,none⟩ (.slice A1' l[j].ex.length c1') (.inr (Nat.le_refl _))).trans hf3');have GF3:=Zh hf3';clear hf3';clear g5 g6 gf;have g6:=(Zc hb3).1 6 _ rfl;have g7:=(Zc hb3).1 7 _ rfl;have gf:=(Zc hb3).2;have HB3:=Zh hb3;clear hb3;go_wp2_with fail;refine(IH.out l[j].body ok A3 c3 _ (by have:=HQ.out;rw[St.size_eq] at this;omega) (fun k hk=>by have:=HKR.out k hk;have:=HF3.out.size;simp;omega) (R3.out.fr (HF3.out.setCell _ _ (.inr (Nat.le_refl _))) (fun _ _=>non _) (fun _ h=>h)) p3 q3).mono ?_;rintro e w5 ⟨A3',c3',rfl,hf5,hl3,hr3⟩;have hb5:=Zb (blk_set HB3.out 6 (.slice A2' l[j].args.length c2')) hf5 (non _);have HR3:=Zh hr3;clear hr3;have HF5:=Zh ((HF3.out.setCell ⟨wr.heap.size,6,none⟩ (.slice A2' l[j].args.length c2') (.inr (Nat.le_refl _))).trans hf5);have GF5:=Zh hf5;clear hf5;clear g6 g7 gf;have g7:=(Zc hb5).1 7 _ rfl;have g8:=(Zc hb5).1 8 _ rfl;have gf:=(Zc hb5).2;have HB5:=Zh hb5;clear hb5;go_wp2_with fail;refine(IH.out l[j].els ok A4 c4 _ (by have:=HQ.out;rw[St.size_eq] at this;omega) (fun k hk=>by have:=HKR.out k hk;have:=HF5.out.size;simp;omega) (R4.out.fr (HF5.out.setCell _ _ (.inr (Nat.le_refl _))) (fun _ _=>non _) (fun _ h=>h)) p4 q4).mono ?_;rintro e w7 ⟨A4',c4',rfl,hf7,hl4,hr4⟩;have hb7:=Zb (blk_set HB5.out 7 (.slice A3' l[j].body.length c3')) hf7 (non _);have HR4:=Zh hr4;clear hr4;have HF7:=Zh ((HF5.out.setCell ⟨wr.heap.size,7,none⟩ (.slice A3' l[j].body.length c3') (.inr (Nat.le_refl _))).trans hf7);have GF7:=Zh hf7;clear hf7;clear g7 g8 gf;have g0:=(Zc hb7).1 0 _ rfl;have g1:=(Zc hb7).1 1 _ rfl;have g2:=(Zc hb7).1 2 _ rfl;have g3:=(Zc hb7).1 3 _ rfl;have g4:=(Zc hb7).1 4 _ rfl;have g5:=(Zc hb7).1 5 _ rfl;have g6:=(Zc hb7).1 6 _ rfl;have g7:=(Zc hb7).1 7 _ rfl;have g8:=(Zc hb7).1 8 _ rfl;have gf:=(Zc hb7).2;have HB7:=Zh hb7;clear hb7;have S7:=Zh (show Fr (fun k=>k=wr.heap.size) w7 (w7.setCell ⟨wr.heap.size,8,none⟩ (.slice A4' l[j].els.length c4')) from(Fr.refl _ _).setCell _ _ (.inl rfl));have S5:=Zh ((((Fr.refl (fun k=>k=wr.heap.size) w5).setCell ⟨wr.heap.size,7,none⟩ (.slice A3' l[j].body.length c3') (.inl rfl)).trans GF7.out.non).trans S7.out);have S3:=Zh ((((Fr.refl (fun k=>k=wr.heap.size) w3).setCell ⟨wr.heap.size,6,none⟩ (.slice A2' l[j].args.length c2') (.inl rfl)).trans GF5.out.non).trans S5.out);have S2:=Zh ((((Fr.refl (fun k=>k=wr.heap.size) w2).setCell ⟨wr.heap.size,5,none⟩ (.slice A1' l[j].ex.length c1') (.inl rfl)).trans GF3.out.non).trans S3.out);go_wp2_with (at_builtin;refine app_st rfl _ _ rfl w.heap.size (.slice A0 j c0) (St.ds (l.take j)) rfl ?o ⟨w7.heap.size,0,none⟩ 1 1 rfl [l[j].d] [vu8 l[j].kind,.string l[j].name,.string l[j].frm,.bool l[j].sec,.bool l[j].mt,.slice A1' l[j].ex.length c1',.slice A2' l[j].args.length c2',.slice A3' l[j].body.length c3',.slice A4' l[j].els.length c4'] ?ch rfl ?nc (one_st _ _ _ _ _ _ _ _ _ _ _ _ _ _ _ _ _) ?b1 ?b2 ?b3 ?k)
   case nc=>exact new_cells' (by simp)
   case o=>exact HO.out.fr ((HF7.out.setCell _ _ (.inr (Nat.le_refl _))).alloc _) (fun _ _=>non _)
   case ch=>
    have hv:=HO.out.lt;have sz3:=HF3.out.size;have sz2:=HF2.out.size;have sz5:=HF5.out.size;have sz7:=HF7.out.size;have lt2:=blk_lt HB2.out;have lt3:=blk_lt HB3.out;have lt5:=blk_lt HB5.out;have lt7:=blk_lt HB7.out;have z2:=S2.out.size;have z3:=S3.out.size;have z5:=S5.out.size;rw[setCell_size] at z2 z3 z5;refine chunk_st l[j] hl1 q1 (HR1.out.fr (S2.out.alloc _) ?_ ?_) hl2 q2 (HR2.out.fr (S3.out.alloc _) ?_ ?_) hl3 q3 (HR3.out.fr (S5.out.alloc _) ?_ ?_) hl4 q4 (HR4.out.fr (S7.out.alloc _) ?_ ?_);all_goals (intro k hk;have h1:=hk.1;have h2:=hk.2;try simp at h1;try simp at h2)
    all_goals first
     |(intro h;have h:k=wr.heap.size:=h;omega)
     |(refine⟨by omega,by simp;omega,fun e=>?_⟩;have:=(hv k e).2;omega)
   case b1=>rw[HN.out];exact(room144 (by omega)).1
   case b2=>rw[HN.out];exact(room144 (by omega)).2
   case b3=>have:=HF7.out.size;simp;omega
   case k=>
    intro v' w' hown' hfr';have HO':=Zh hown';clear hown';have HF':=Zh hfr';clear hfr';go_wp2_with fail;go_roundw
    case rel=>exact⟨j+1,by go_num,by omega,((HF.out.trans ((HF7.out.setCell _ _ (.inr (Nat.le_refl _))))).alloc _).then HF'.out (fun k hk ht=>by have:=ht.1;omega),by rw[take_snoc _ _ hlt,St.ds_eq,List.map_append,←St.ds_eq];exact HO'.out⟩
    case measure=>simp[intOf];omega
  ·have HO:=Zh hown;clear hown;have HF:=Zh hfr;clear hfr;go_wp2_with fail;go_ret;obtain rfl:j=l.length:=by omega
   have h3:=HO.out.rows;rw[List.take_length] at h3;exact⟨A0,c0,rfl,HF.out,hc0,h3⟩
end Go.Proofs.YtpkpgmnbheenbaaGreatDoor
