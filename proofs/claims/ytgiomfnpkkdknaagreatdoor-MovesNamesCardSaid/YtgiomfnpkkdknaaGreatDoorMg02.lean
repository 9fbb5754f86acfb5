/- Contracts and laws, Mg02 -/
import Derived.Test.YtgiomfnpkkdknaaGreatDoorMg01
import Derived.MapKept
import Derived.Carry
import Derived.Deep.DeepCutAuto
namespace Go.Proofs.YtgiomfnpkkdknaaGreatDoor
open Go.RowKit
set_option linter.unusedVariables false
set_option linter.unusedSimpArgs false
set_option maxHeartbeats 8000000
set_option maxRecDepth 100000
section
open Go.MapKept
def MapS (w:World) (b:Nat) (l:List (ByteArray×Value)):Prop:=
 ∃es clock,w.heap[b]? =some (.map es clock)∧es.toList.map (fun e=>(e.key,e.val))=l.map (fun p=>(Value.string p.1,p.2))∧Stamped es clock
def mhas (l:List (ByteArray×Value)) (s:ByteArray):Bool:=l.any fun p=>sq p.1 s
def mget (l:List (ByteArray×Value)) (s:ByteArray) (z:Value):Value:=((l.find? fun p=>sq p.1 s).map (·.2)).getD z
def mset (l:List (ByteArray×Value)) (s:ByteArray) (v:Value):List (ByteArray×Value):=l.map fun p=>if sq p.1 s then(p.1,v) else p
def mput (l:List (ByteArray×Value)) (s:ByteArray) (v:Value):List (ByteArray×Value):=if mhas l s then mset l s v else l++[(s,v)]
def mdel (l:List (ByteArray×Value)) (s:ByteArray):List (ByteArray×Value):=l.filter fun p=> !sq p.1 s
theorem MapS.lt {w:World} {b:Nat} {l:List (ByteArray×Value)} (h:MapS w b l):b<w.heap.size:=by
 obtain⟨es,clock,hb,_⟩:=h;exact(Array.getElem?_eq_some_iff.1 hb).1
theorem MapS.of {w w':World} {b:Nat} {l:List (ByteArray×Value)} (h:MapS w b l) (e:w'.heap[b]? =w.heap[b]?):MapS w' b l:=by
 obtain⟨es,clock,hb,r⟩:=h;exact⟨es,clock,e.trans hb,r⟩
theorem MapS.fr {S:Nat→Prop} {w w':World} {b:Nat} {l:List (ByteArray×Value)} (h:MapS w b l) (hf:Fr S w w') (hs:¬S b):MapS w' b l:=h.of (hf.block b h.lt hs)
theorem MapS.new (w:World):MapS (w.alloc (.map #[] 0)) w.heap.size []:=⟨#[],0,(heap_alloc w _).1,rfl,stamped_empty 0⟩
section
variable {w:World} {b:Nat} {l:List (ByteArray×Value)} {es:Array MapEntry} {clock:Nat}
theorem keys_of (h:es.toList.map (fun e=>(e.key,e.val))=l.map (fun p=>(Value.string p.1,p.2))):es.toList.map (·.key)=l.map (fun p=>Value.string p.1):=by
 have:=congrArg (List.map Prod.fst) h;simpa[List.map_map,Function.comp_def] using this
theorem iskeys (h:es.toList.map (fun e=>(e.key,e.val))=l.map (fun p=>(Value.string p.1,p.2))):∀x∈es.toList,IsKey .string x.key:=by
 intro x hx;have h1:x.key∈es.toList.map (·.key):=List.mem_map.2 ⟨x,hx,rfl⟩;rw[keys_of h] at h1;obtain⟨p,_,e⟩:=List.mem_map.1 h1;rw[←e];trivial
theorem ent_at (h:es.toList.map (fun e=>(e.key,e.val))=l.map (fun p=>(Value.string p.1,p.2))) {j:Nat} {e:MapEntry} {s:ByteArray} (hj:es.toList[j]? =some e) (hk:e.key= .string s):l[j]? =some (s,e.val):=by
 have h1:(es.toList.map (fun e=>(e.key,e.val)))[j]? =some (e.key,e.val):=by rw[List.getElem?_map,hj];rfl
 rw[h,List.getElem?_map] at h1;cases hl:l[j]? with
 |none=>rw[hl] at h1;cases h1
 |some p=>
  rw[hl] at h1;simp only[Option.map_some,Option.some.injEq,Prod.mk.injEq] at h1;rw[hk] at h1;obtain⟨h1,h2⟩:=h1;cases h1;rw[←h2]
theorem lkeys_nodup (h:es.toList.map (fun e=>(e.key,e.val))=l.map (fun p=>(Value.string p.1,p.2))) (hs:Stamped es clock):(l.map (·.1)).Nodup:=by
 have h1:=hs.2.2;rw[keys_of h] at h1;have h2:l.map (fun p=>Value.string p.1)=(l.map (·.1)).map Value.string:=by simp[List.map_map]
 rw[h2] at h1;exact List.Pairwise.imp (fun hne e=>hne (by rw[e])) (List.pairwise_map.1 h1)
theorem find_in (h:es.toList.map (fun e=>(e.key,e.val))=l.map (fun p=>(Value.string p.1,p.2))) (s:ByteArray):
  (Instr.findNow .string (.string s) es.toList 0=some none∧(∀x∈es.toList,x.key≠.string s)∧mhas l s=false)∨
  ∃j e,Instr.findNow .string (.string s) es.toList 0=some (some (j,e.val))∧es[j]? =some e∧e.key= .string s∧l[j]? =some (s,e.val)∧mhas l s=true:=by
 rcases findNow_spec (d:=.string) (k:=.string s) trivial es.toList 0 (iskeys h) with⟨h1,h2⟩|⟨j,e,h1,h2,h3⟩
 ·refine .inl ⟨h1,h2,?_⟩;cases hm:mhas l s
  ·rfl
  ·obtain⟨p,hp,hq⟩:=List.any_eq_true.1 hm;have h5:Value.string s∈es.toList.map (·.key):=by rw[keys_of h,List.mem_map];exact⟨p,hp,by rw[sq_iff.1 hq]⟩
   obtain⟨x,hx,hxe⟩:=List.mem_map.1 h5;exact absurd hxe (h2 x hx)
 ·have hl:=ent_at h h2 h3;refine .inr ⟨j,e,by simpa using h1,by simpa using h2,h3,hl,?_⟩;exact List.any_eq_true.2 ⟨_,List.mem_of_getElem? hl,sq_refl s⟩
theorem find_at {l:List (ByteArray×Value)} (hn:(l.map (·.1)).Nodup) {j:Nat} {s:ByteArray} {v:Value} (h:l[j]? =some (s,v)):(l.find? fun p=>sq p.1 s)=some (s,v):=by
 induction l generalizing j with
 |nil=>simp at h
 |cons p l ih=>
  cases j with
  |zero=>simp at h;subst h;simp[sq_refl]
  |succ j=>
   have hn2:=List.nodup_cons.1 hn;have hne:sq p.1 s=false:=sq_no fun e=>hn2.1 (List.mem_map.2 ⟨(s,v),List.mem_of_getElem? (by simpa using h),e.symm⟩);rw[List.find?_cons_of_neg (by simp[hne])];exact ih hn2.2 (by simpa using h)
theorem mget_no {s:ByteArray} (h:mhas l s=false) (z:Value):mget l s z=z:=by
 rw[mget,List.find?_eq_none.2];rfl;intro p hp hq;rw[mhas,List.any_eq_false] at h;exact h p hp hq
theorem mset_at {l:List (ByteArray×Value)} (hn:(l.map (·.1)).Nodup) {j:Nat} {s:ByteArray} {v:Value} (h:l[j]? =some (s,v)) (u:Value):mset l s u=l.set j (s,u):=by
 induction l generalizing j with
 |nil=>simp at h
 |cons p l ih=>
  have hn2:=List.nodup_cons.1 hn;cases j with
  |zero=>
   simp at h;subst h;have:∀q∈l,(if sq q.1 s then(q.1,u) else q)=q:=by
    intro q hq;rw[if_neg];intro hx;exact hn2.1 (List.mem_map.2 ⟨q,hq,sq_iff.1 hx⟩)
   simp only[mset,List.map_cons,sq_refl,if_true,List.set_cons_zero,List.cons.injEq,true_and];exact(List.map_congr_left this).trans (List.map_id' l)
  |succ j=>
   have h':l[j]? =some (s,v):=by simpa using h
   have hne:sq p.1 s=false:=sq_no fun e=>hn2.1 (List.mem_map.2 ⟨(s,v),List.mem_of_getElem? h',e.symm⟩);have:=ih hn2.2 h';simp only[mset] at this ⊢;rw[List.map_cons,this,hne];rfl
theorem mdel_at {l:List (ByteArray×Value)} (hn:(l.map (·.1)).Nodup) {j:Nat} {s:ByteArray} {v:Value} (h:l[j]? =some (s,v)):mdel l s=l.eraseIdx j:=by
 induction l generalizing j with
 |nil=>simp at h
 |cons p l ih=>
  have hn2:=List.nodup_cons.1 hn;cases j with
  |zero=>
   simp at h;subst h;have:∀q∈l,(!sq q.1 s)=true:=by
    intro q hq;rw[sq_no];rfl;intro hx;exact hn2.1 (List.mem_map.2 ⟨q,hq,hx⟩)
   simp only[mdel,List.filter_cons,sq_refl,List.eraseIdx_cons_zero];exact List.filter_eq_self.2 this
  |succ j=>
   have h':l[j]? =some (s,v):=by simpa using h
   have hne:sq p.1 s=false:=sq_no fun e=>hn2.1 (List.mem_map.2 ⟨(s,v),List.mem_of_getElem? h',e.symm⟩);have:=ih hn2.2 h';simp only[mdel] at this ⊢;rw[List.filter_cons,hne,this];rfl
theorem mdel_no {s:ByteArray} (h:mhas l s=false):mdel l s=l:=by
 rw[mdel,List.filter_eq_self];intro p hp;rw[mhas,List.any_eq_false] at h;have:=h p hp;simpa using this
theorem fr_setBlock {w:World} {b:Nat} (o:Obj) (hb:b<w.heap.size):Fr (fun k=>k=b) w {w with heap:=w.heap.setIfInBounds b o}:=
 ⟨rfl,rfl,rfl,by simp,fun k _ hn=>by
   have hn:k≠b:=hn;simp[Ne.symm hn]⟩
end
variable {P:Program} {w:World} {b:Nat} {l:List (ByteArray×Value)} {t k e:TypeId} {z:Value}
theorem MapS.look (h:MapS w b l) (ht:P.underlying t=some (.map k e)) (hk:P.underlying k=some .string) (hz:∀w,(zeroValue e).run P w= .ok z w) (s:ByteArray):
  (Instr.lookup t (.map (some b)) (.string s) true).run P w= .ok (.tuple #[mget l s z,.bool (mhas l s)]) w∧(Instr.lookup t (.map (some b)) (.string s) false).run P w= .ok (mget l s z) w:=by
 obtain⟨es,clock,hb,hl,hs⟩:=h;rcases find_in hl s with⟨h1,h2,h3⟩|⟨j,e0,h1,h2,h3,h4,h5⟩
 ·rw[mget_no h3,h3];constructor<;>simp[Instr.lookup,run_underlying ht,Go.MapKept.run_getObj_map hb,Go.MapKept.run_checkKey (k:=.string s) hk trivial,Go.MapKept.run_findKey hk h1,hz,Result.andThen]
 ·have hf:=find_at (lkeys_nodup hl hs) h4;rw[mget,hf,h5];constructor<;>simp[Instr.lookup,run_underlying ht,Go.MapKept.run_getObj_map hb,Go.MapKept.run_checkKey (k:=.string s) hk trivial,Go.MapKept.run_findKey hk h1,Result.andThen]
theorem MapS.del (h:MapS w b l) (ht:P.underlying t=some (.map k e)) (hk:P.underlying k=some .string) (s:ByteArray) (ty u:TypeId):
  ∃w',(Builtin.delete_ #[t,u] ty #[.map (some b),.string s]).run P w= .ok (.tuple #[]) w'∧MapS w' b (mdel l s)∧Fr (fun k=>k=b) w w':=by
 have hlt:=h.lt;obtain⟨es,clock,hb,hl,hs⟩:=h;rcases find_in hl s with⟨h1,h2,h3⟩|⟨j,e0,h1,h2,h3,h4,h5⟩
 ·rw[mdel_no h3];refine⟨_,?_,⟨es,clock,(heap_set hb).1,hl,hs⟩,fr_setBlock (.map es clock) hlt⟩;simp[Builtin.delete_,run_underlying ht,Go.MapKept.run_getObj_map hb,Go.MapKept.run_checkKey (k:=.string s) hk trivial,Go.MapKept.run_findKey hk h1,Go.MapKept.run_setObj_map _ hb,Result.andThen]
 ·rw[mdel_at (lkeys_nodup hl hs) h4];refine⟨_,?_,⟨es.eraseIdxIfInBounds j,clock,(heap_set hb).1,?_,stamped_erase hs j⟩,fr_setBlock (.map (es.eraseIdxIfInBounds j) clock) hlt⟩
  ·simp[Builtin.delete_,run_underlying ht,Go.MapKept.run_getObj_map hb,Go.MapKept.run_checkKey (k:=.string s) hk trivial,Go.MapKept.run_findKey hk h1,Go.MapKept.run_setObj_map _ hb,Result.andThen]
  ·have hj:j<es.size:=(Array.getElem?_eq_some_iff.1 h2).1;have e1:(es.eraseIdxIfInBounds j).toList=es.toList.eraseIdx j:=by
    unfold Array.eraseIdxIfInBounds;rw[dif_pos hj];simp
   rw[e1,List.eraseIdx_eq_take_drop_succ,List.eraseIdx_eq_take_drop_succ,List.map_append,List.map_append,List.map_take,List.map_take,List.map_drop,List.map_drop,hl]
theorem modify_val {es:Array MapEntry} {l:List (ByteArray×Value)} (h:es.toList.map (fun e=>(e.key,e.val))=l.map (fun p=>(Value.string p.1,p.2))) {j:Nat} {e0:MapEntry} {s:ByteArray} (hj:es[j]? =some e0) (hk:e0.key= .string s) (v:Value) (f:MapEntry→MapEntry)
  (h1:(f e0).key=e0.key) (h2:(f e0).val=v):(es.modify j f).toList.map (fun e=>(e.key,e.val))=(l.set j (s,v)).map (fun p=>(Value.string p.1,p.2)):=by
 rw[List.map_set,←h,Array.toList_modify];apply List.ext_getElem?;intro i;rw[List.getElem?_map,List.getElem?_modify,List.getElem?_set,List.getElem?_map];by_cases hij:j=i
 ·subst hij;have hj2:es.toList[j]? =some e0:=by simpa using hj
  have hlt:j<es.size:=(Array.getElem?_eq_some_iff.1 hj).1;simp only[hj2,if_true,Option.map_some];simp[hlt,h1,h2,hk]
 ·simp[hij]
theorem MapS.put (h:MapS w b l) (ht:P.underlying t=some (.map k e)) (hk:P.underlying k=some .string) (s:ByteArray) (v:Value):
  ∃w',(Instr.mapUpdate t (.map (some b)) (.string s) v).run P w= .ok () w'∧MapS w' b (mput l s v)∧Fr (fun k=>k=b) w w':=by
 have hlt:=h.lt;obtain⟨es,clock,hb,hl,hs⟩:=h;rcases find_in hl s with⟨h1,h2,h3⟩|⟨j,e0,h1,h2,h3,h4,h5⟩
 ·rw[mput,h3];refine⟨_,?_,⟨_,_,(heap_set hb).1,?_,stamped_push hs h2⟩,fr_setBlock (.map (es.push ⟨.string s,v,clock⟩) (clock+1)) hlt⟩
  ·simp[Instr.mapUpdate,run_underlying ht,Go.MapKept.run_getObj_map hb,Go.MapKept.run_checkKey (k:=.string s) hk trivial,Go.MapKept.run_findKey hk h1,Go.MapKept.run_setObj_map _ hb,Result.andThen]
  ·simp[hl]
 ·rw[mput,h5,if_pos rfl,mset_at (lkeys_nodup hl hs) h4];refine⟨_,?_,⟨es.modify j (fun e=>{e with key:=.string s,val:=v}),clock,(heap_set hb).1,modify_val hl h2 h3 v _ h3.symm rfl,stamped_modify hs _ _ (fun _ _=>rfl) (fun e' _ he'=>by rw[h2] at he';cases he';exact h3.symm)⟩,fr_setBlock (.map (es.modify j (fun e=>{e with key:=.string s,val:=v})) clock) hlt⟩;simp[Instr.mapUpdate,run_underlying ht,Go.MapKept.run_getObj_map hb,Go.MapKept.run_checkKey (k:=.string s) hk trivial,Go.MapKept.run_findKey hk h1,h2,h3,run_keyThatStays (d:=.string) (k:=.string s) trivial,Go.MapKept.run_setObj_map _ hb,Result.andThen]
theorem MapS.entry (h:MapS w b l) (ht:P.underlying t=some (.map k e)) (hk:P.underlying k=some .string) (hz:∀w,(zeroValue e).run P w= .ok z w) (s:ByteArray):
  ∃(v0:Value) (st:Nat) (w':World) (es1:Array MapEntry) (clock1:Nat),(Instr.mapEntry t (.map (some b)) (.string s)).run P w= .ok (.tuple #[v0,goInt st]) w'∧w'.heap[b]? =some (.map es1 clock1)∧Fr (fun k=>k=b) w w'∧
   ∀(w2:World) (v:Value),w2.heap[b]? =some (.map es1 clock1)→∃w3,(Instr.entryStore t (.map (some b)) (goInt st) v).run P w2= .ok () w3∧MapS w3 b (mput l s v)∧Fr (fun k=>k=b) w2 w3:=by
 have hlt:=h.lt;obtain⟨es,clock,hb,hl,hs⟩:=h;have hs':=hs;obtain⟨s1,s2,_⟩:=hs';have findIdx_born:∀(es:Array MapEntry) (j:Nat) (e0:MapEntry),(es.toList.map (·.born)).Nodup→es[j]? =some e0→es.findIdx? (fun e=>((e.born:Nat):Int)==((e0.born:Nat):Int))=some j:=by
  intro es j e0 hn hj;obtain⟨hj1,hj2⟩:=Array.getElem?_eq_some_iff.1 hj;rw[Array.findIdx?_eq_some_iff_getElem];refine⟨hj1,by simp[hj2],fun i hi=>?_⟩;have hi1:i<es.size:=by omega
  simp only[beq_iff_eq,Int.natCast_inj,Bool.not_eq_true,beq_eq_false_iff_ne,ne_eq];intro hbe;have hp:=List.pairwise_iff_getElem.1 hn i j (by simpa using hi1) (by simpa using hj1) hi;simp only[List.getElem_map,Array.getElem_toList] at hp;rw[hj2] at hp;exact hp hbe
 rcases find_in hl s with⟨h1,h2,h3⟩|⟨j,e0,h1,h2,h3,h4,h5⟩
 ·refine⟨z,clock,_,es.push ⟨.string s,z,clock⟩,clock+1,?_,(heap_set hb).1,fr_setBlock _ hlt,fun w2 v hw2=>?_⟩
  ·simp[Instr.mapEntry,run_underlying ht,Go.MapKept.run_getObj_map hb,Go.MapKept.run_checkKey (k:=.string s) hk trivial,Go.MapKept.run_findKey hk h1,hz,Go.MapKept.run_setObj_map _ hb,Result.andThen]
  ·have hidx:=findIdx_born (es.push ⟨.string s,z,clock⟩) es.size ⟨.string s,z,clock⟩ (stamped_push (val:=z) hs h2).2.1 (by simp);have hmod:(es.push ⟨.string s,z,clock⟩).modify es.size (fun e=>{e with val:=v})=es.push ⟨.string s,v,clock⟩:=by
    apply Array.ext_getElem?;intro i;rw[Array.getElem?_modify,Array.getElem?_push,Array.getElem?_push];by_cases hi:es.size=i
    ·subst hi;simp
    ·simp[hi,Ne.symm hi]
   refine⟨_,?_,⟨es.push ⟨.string s,v,clock⟩,clock+1,(heap_set hw2).1,?_,stamped_push hs h2⟩,fr_setBlock _ (Array.getElem?_eq_some_iff.1 hw2).1⟩
   ·simp[Instr.entryStore,Go.MapKept.run_getObj_map hw2,asInt,asIntOf,goInt,hidx,hmod,Go.MapKept.run_setObj_map _ hw2,Result.andThen]
   ·rw[mput,h3];simp[hl]
 ·have hsame:es.modify j (fun e=>{e with key:=.string s})=es:=by
   apply Array.ext_getElem?;intro i;rw[Array.getElem?_modify];by_cases hi:j=i
   ·subst hi;rw[h2];simp only[if_true,Option.map_some,←h3]
   ·simp[hi]
  refine⟨e0.val,e0.born,_,es,clock,?_,(heap_set hb).1,fr_setBlock (.map es clock) hlt,fun w2 v hw2=>?_⟩
  ·simp[Instr.mapEntry,run_underlying ht,Go.MapKept.run_getObj_map hb,Go.MapKept.run_checkKey (k:=.string s) hk trivial,Go.MapKept.run_findKey hk h1,h2,h3,run_keyThatStays (d:=.string) (k:=.string s) trivial,hsame,Go.MapKept.run_setObj_map _ hb,Result.andThen]
  ·have hidx:=findIdx_born es j e0 s2 h2;refine⟨_,?_,⟨es.modify j (fun e=>{e with val:=v}),clock,(heap_set hw2).1,?_,stamped_modify hs _ _ (fun _ _=>rfl) (fun _ _ _=>rfl)⟩,fr_setBlock _ (Array.getElem?_eq_some_iff.1 hw2).1⟩
   ·simp[Instr.entryStore,Go.MapKept.run_getObj_map hw2,asInt,asIntOf,goInt,hidx,Go.MapKept.run_setObj_map _ hw2,Result.andThen]
   ·rw[mput,h5,if_pos rfl,mset_at (lkeys_nodup hl hs) h4];exact modify_val hl h2 h3 v _ rfl rfl
end
def letterM (c:UInt8):Bool:=(97≤c.toNat&&c.toNat≤122)||c.toNat==95
def digitM (c:UInt8):Bool:=48≤c.toNat&&c.toNat≤57
def wordsM:List ByteArray:=[⟨#[108,101,116]⟩,⟨#[115,101,99,114,101,116]⟩,⟨#[98,117,102]⟩,⟨#[105,102]⟩,⟨#[101,108,115,101]⟩,⟨#[119,104,105,108,101]⟩,⟨#[102,111,114]⟩,
 ⟨#[118,105,101,119]⟩,⟨#[101,100,105,116]⟩,⟨#[109,111,118,101]⟩,⟨#[111,112,101,110]⟩,⟨#[99,97,108,108]⟩,⟨#[115,101,97,108]⟩,⟨#[102,110]⟩,⟨#[114,101,116,117,114,110]⟩,⟨#[110,117,109]⟩]
def inM (l:List ByteArray) (s:ByteArray):Bool:=l.any fun x=>sq x s
def wordM (s:ByteArray):Bool:=inM wordsM s
def partM (c:UInt8):Bool:=letterM c||digitM c
def namedM (s:ByteArray):Bool:= !emp s&&decide (s.size≤16)&&letterM (s.data.getD 0 0)&& !wordM s&&s.data.toList.all partM
theorem letter_any (c:UInt8) (w:World):Calls Tryz.prog 56 #[vu8 c] w fun e w'=>e= .returned (.bool (letterM c))∧w=w':=by
 have hc:=c.toNat_lt;go_enter Tryz.func56,Tryz.ntmps56;go_wp2_with fail;all_goals
  go_ret;refine⟨ret_bool ?_,rfl⟩;rw[Bool.eq_iff_iff];simp[letterM];try omega
theorem digit_any (c:UInt8) (w:World):Calls Tryz.prog 58 #[vu8 c] w fun e w'=>e= .returned (.bool (digitM c))∧w=w':=by
 have hc:=c.toNat_lt;go_enter Tryz.func58,Tryz.ntmps58;go_wp2_with fail;all_goals
  go_ret;refine⟨ret_bool ?_,rfl⟩;rw[Bool.eq_iff_iff];simp[digitM];try omega
theorem in_any (ok:Nat→Prop) (A:Option Addr) (c:Nat) (l:List ByteArray) (s:ByteArray) (w:World) (h:RdRows ok w 1 A 0 (l.map strD)) (hc:l.length≤140737488355328):
  Calls Tryz.prog 86 #[.slice A l.length c,.string s] w fun e w'=>e= .returned (.bool (inM l s))∧w=w':=by
 go_enter Tryz.func86,Tryz.ntmps86;go_wp2_with fail
 go_loop [5] (fun i=>∃k:Nat,i= .int .i64 k∧k≤l.length∧∀j,j<k→∀hj:j<l.length,sq l[j] s=false) (fun i=>l.length-(intOf i).toNat)
 case atStart=>exact⟨0,rfl,by omega,fun j hj=>by omega⟩
 case round=>
  obtain⟨k,rfl,hk,hno⟩:=hrel;have HN:=Zh hno;clear hno;by_cases hlt:k<l.length
  ·obtain⟨b,o,rfl,hb,h0⟩:=at_str h k hlt;have H:=Zh h;clear h;cases hq:sq l[k] s with
   |true=>
    have hq':=hq;rw[←tosq] at hq';have HQ:=Zh hq;clear hq;go_wp2_with fail;go_ret;exact⟨ret_bool (any_true_of k hlt HQ.out).symm,rfl⟩
   |false=>
    have hq':=hq;rw[←tosq] at hq';have HQ:=Zh hq;clear hq;go_wp2_with fail
    go_round
    case rel=>exact⟨k+1,by go_num,by omega,till HN.out fun _=>HQ.out⟩
    case measure=>simp[intOf];omega
  ·have H:=Zh h;clear h;go_wp2_with fail;go_ret;exact⟨ret_bool (any_false_of fun j hj=>HN.out j (by omega) hj).symm,rfl⟩
theorem words_any (w:World):Calls Tryz.prog 87 #[] w fun e w'=>∃b c,e= .returned (.slice (some ⟨b,0,none⟩) 16 c)∧Fr Non w w'∧RdRows (fun _=>True) w' 1 (some ⟨b,0,none⟩) 0 (wordsM.map strD):=by
 go_enter Tryz.func87,Tryz.ntmps87;go_wp2_with fail;go_ret;exact⟨w.heap.size,16,rfl,(Fr.refl _ _).alloc _,rd_strs _ _ _ rfl⟩
theorem word_any (s:ByteArray) (w:World):Calls Tryz.prog 57 #[.string s] w fun e w'=>e= .returned (.bool (wordM s))∧Fr Non w w':=by
 go_enter Tryz.func57,Tryz.ntmps57;go_wp2_with fail;refine(words_any _).mono ?_;rintro e w1 ⟨b,c,rfl,hf,hr⟩;have H:=Zh hr;clear hr;go_wp2_with fail;refine(in_any (fun _=>True) _ c wordsM s _ H.out (by simp[wordsM])).mono ?_;rintro e w2 ⟨rfl,rfl⟩;go_wp2_with fail;go_ret;exact⟨rfl,hf⟩
theorem named_any (s:ByteArray) (w:World):Calls Tryz.prog 41 #[.string s] w fun e w'=>e= .returned (.bool (namedM s))∧Fr Non w w':=by
 cases he:emp s with
 |true=>
  have he':=he;rw[←toemp] at he';go_enter Tryz.func41,Tryz.ntmps41;go_wp2_with fail;go_ret;exact⟨ret_bool (by simp[namedM,he]),Zf _⟩
 |false=>
  have he':=he;rw[←toemp] at he';have hp:0<s.size:=by
   rcases Nat.eq_zero_or_pos s.size with h|h
   ·simp[emp,h] at he
   ·exact h
  have hd:s.data.getD 0 0=s[0]:=by have hp':0<s.data.size:=hp;rw[Array.getD,dif_pos hp'];rfl
  by_cases h16:s.size≤16
  ·have h16':decide ((16:Int)<(s.size:Int))=false:=by simp;omega
   cases hl:letterM s[0] with
   |false=>
    have HF:=Zh (show namedM s=false by simp[namedM,hd,hl]);clear hd;have H1:=Zh he;clear he;go_enter Tryz.func41,Tryz.ntmps41;go_wp2_with fail;refine(letter_any _ _).mono ?_;rintro e w1 ⟨rfl,rfl⟩;go_wp2_with fail;go_ret;exact⟨ret_bool HF.out.symm,Zf _⟩
   |true=>
    cases hw:wordM s with
    |true=>
     have HF:=Zh (show namedM s=false by simp[namedM,hw]);clear hd;have H1:=Zh he;clear he;go_enter Tryz.func41,Tryz.ntmps41;go_wp2_with fail;refine(letter_any _ _).mono ?_;rintro e w1 ⟨rfl,rfl⟩;go_wp2_with fail;refine(word_any _ _).mono ?_;rintro e w1 ⟨rfl,hf⟩;go_wp2_with fail;go_ret;exact⟨ret_bool HF.out.symm,hf⟩
    |false=>
     have HF:=Zh (show namedM s=s.data.toList.all partM by simp[namedM,he,h16,hd,hl,hw]);clear hd;have H1:=Zh he;clear he;go_enter Tryz.func41,Tryz.ntmps41;go_wp2_with fail;refine(letter_any _ _).mono ?_;rintro e w1 ⟨rfl,rfl⟩;go_wp2_with fail;refine(word_any _ _).mono ?_;rintro e w1 ⟨rfl,hf⟩;go_wp2_with fail
     go_loop [3] (fun i=>∃k:Nat,i= .int .i64 k∧k≤s.size∧∀j,j<k→∀hj:j<s.data.toList.length,partM s.data.toList[j]=true) (fun i=>s.size-(intOf i).toNat)
     case atStart=>exact⟨0,rfl,by omega,fun j hj=>by omega⟩
     case round=>
      obtain⟨k,rfl,hk,hno⟩:=hrel;have HN:=Zh hno;clear hno;by_cases hlt:k<s.size
      ·have hlt':k<s.data.size:=hlt;have hsk:s.data.toList[k]'(by simpa using hlt')=s[k]:=rfl;have HS:=Zh hsk;clear hsk;cases hlk:letterM s[k] with
       |true=>
        go_wp2_with fail;refine(letter_any _ _).mono ?_;rintro e w1 ⟨rfl,rfl⟩;go_wp2_with fail
        go_round
        case rel=>exact⟨k+1,by go_num,by omega,till HN.out fun _=>by rw[HS.out];simp[partM,hlk]⟩
        case measure=>simp[intOf];omega
       |false=>
        cases hdk:digitM s[k] with
        |true=>
         go_wp2_with fail;refine(letter_any _ _).mono ?_;rintro e w1 ⟨rfl,rfl⟩;go_wp2_with fail;refine(digit_any _ _).mono ?_;rintro e w1 ⟨rfl,rfl⟩;go_wp2_with fail
         go_round
         case rel=>exact⟨k+1,by go_num,by omega,till HN.out fun _=>by rw[HS.out];simp[partM,hdk]⟩
         case measure=>simp[intOf];omega
        |false=>
         go_wp2_with fail;refine(letter_any _ _).mono ?_;rintro e w1 ⟨rfl,rfl⟩;go_wp2_with fail;refine(digit_any _ _).mono ?_;rintro e w1 ⟨rfl,rfl⟩;go_wp2_with fail;go_ret;exact⟨ret_bool (by rw[HF.out];exact(all_false_of k (by simpa using hlt') (by rw[HS.out];simp[partM,hlk,hdk])).symm),hf⟩
      ·go_wp2_with fail;go_ret;exact⟨ret_bool (by rw[HF.out];exact(all_true_of fun j hj=>HN.out j (by have:s.data.size=s.size:=rfl;simp at hj;omega) hj).symm),hf⟩
  ·have HF:=Zh (show namedM s=false by simp[namedM,h16]);have H1:=Zh he;clear he;go_enter Tryz.func41,Tryz.ntmps41;go_wp2_with fail;go_ret;exact⟨ret_bool HF.out.symm,Zf _⟩
def signsM:List ByteArray:=[⟨#[]⟩,⟨#[43]⟩,⟨#[45]⟩,⟨#[60,60]⟩,⟨#[60,36]⟩,⟨#[60]⟩,⟨#[94]⟩,⟨#[62,62]⟩,⟨#[62,62,62]⟩,⟨#[124]⟩,⟨#[38]⟩,⟨#[42]⟩,⟨#[42,94]⟩,⟨#[47]⟩,⟨#[37]⟩]
def signM (op:UInt8):ByteArray:=signsM.getD op.toNat ⟨#[]⟩
theorem sign_any (op:UInt8) (w:World):Calls Tryz.prog 139 #[vu8 op] w fun e w'=>e= .returned (.string (signM op))∧Fr Non w w':=by
 have hc:=op.toNat_lt;by_cases h:op.toNat<15
 ·have hx:∀hz,(signsM.map Value.string)[op.toNat]'hz= .string (signM op):=by
   intro h';rw[List.getElem_map,signM,List.getD_eq_getElem?_getD,List.getElem?_eq_getElem (by simpa using h')];rfl
  have HX:=Zh hx;clear hx;go_enter Tryz.func139,Tryz.ntmps139;go_wp2_with fail;go_ret;exact⟨congrArg Ending.returned (HX.out _),(Zf _).alloc _⟩
 ·have hx:signM op=⟨#[]⟩:=by rw[signM,List.getD_eq_getElem?_getD,List.getElem?_eq_none (by simp[signsM];omega)];rfl
  have HX:=Zh hx;clear hx;go_enter Tryz.func139,Tryz.ntmps139;go_wp2_with fail;go_ret;exact⟨by rw[HX.out];rfl,(Zf _).alloc _⟩
def shapeM (e:Ex):Bool:=
 if e.kind.toNat=1 then emp e.name&&e.op.toNat==0&&e.kids.length==0
 else if e.kind.toNat=2∨e.kind.toNat=4 then e.num.toNat==0&&namedM e.name&&e.op.toNat==0&&e.kids.length==0
 else if e.kind.toNat=3 then e.num.toNat==0&&emp e.name&& !emp (signM e.op)&&e.kids.length==2
 else if e.kind.toNat=5 then e.num.toNat==0&&namedM e.name&&e.op.toNat==0&&e.kids.length==1
 else false
theorem shape_any (k:UInt8) (n:UInt64) (s:ByteArray) (o:UInt8) (l:List Ex) (A:Option Addr) (c:Nat) (w:World):
  Calls Tryz.prog 120 #[.agg #[vu8 k,vu64 n,.string s,vu8 o,.slice A l.length c]] w fun e w'=>e= .returned (.bool (shapeM (.mk k n s o l)))∧Fr Non w w':=by
 go_enter Tryz.func120,Tryz.ntmps120;go_wp2_with fail;refine(named_any _ _).mono ?_;rintro e w1 ⟨rfl,hf⟩;have g0:=box_cells hf (non _) 0 _ rfl;have g1:=box_cells hf (non _) 1 _ rfl;have g2:=box_cells hf (non _) 2 _ rfl;have g3:=box_cells hf (non _) 3 _ rfl;have g4:=box_cells hf (non _) 4 _ rfl;have HF:=Zh (box_fr hf);go_wp2_with fail;all_goals try (refine(sign_any _ _).mono ?_;rintro e w2 ⟨rfl,hf2⟩;have g4':=hf2.cell' g4 (non _);go_wp2_with fail)
 all_goals go_ret
 all_goals (refine⟨ret_bool ?_,?_⟩;rotate_left;first|exact HF.out|exact HF.out.trans hf2)
 all_goals clear hf g0 g1 g2 g3 g4
 all_goals rw[Bool.eq_iff_iff]
 all_goals simp_all [shapeM,Ex.kind,Ex.op,Ex.name,Ex.num,Ex.kids,←toemp,i0,i1,i2,i3,i4,i5]
mutual
def Ex.may:Ex→Nat→Bool
 | .mk k n s o l,deep=>decide (deep≤40)&&shapeM (.mk k n s o l)&&Ex.mays l (deep+1)
def Ex.mays:List Ex→Nat→Bool
 |[],_=>true
 |e::l,deep=>Ex.may e deep&&Ex.mays l deep
end
theorem mays_all:∀(l:List Ex) (d:Nat),Ex.mays l d=l.all (Ex.may · d)
 |[],_=>rfl
 |e::l,d=>by simp[Ex.mays,mays_all l d]
mutual
def Ex.size:Ex→Nat
 | .mk _ _ _ _ l=>1+Ex.sizes l
def Ex.sizes:List Ex→Nat
 |[]=>0
 |e::l=>e.size+Ex.sizes l
end
theorem size_le:∀(l:List Ex) (k:Nat) (h:k<l.length),l[k].size≤Ex.sizes l
 |e::l,0,_=>by simp[Ex.sizes]
 |e::l,k+1,h=>by have:=size_le l k (by simpa using h);simp[Ex.sizes];omega
theorem ex_eta (e:Ex):Ex.mk e.kind e.num e.name e.op e.kids=e:=by cases e;rfl
abbrev exV (k:UInt8) (n:UInt64) (s:ByteArray) (o:UInt8) (A:Option Addr) (len c:Nat):Value:=.agg #[vu8 k,vu64 n,.string s,vu8 o,.slice A len c]
theorem may_any (N:Nat):∀(k:UInt8) (n:UInt64) (s:ByteArray) (o:UInt8) (l:List Ex) (ok:Nat→Prop) (A:Option Addr) (c deep:Nat) (w:World),Ex.size (.mk k n s o l)≤N→RdRows ok w 5 A 0 (Ex.ds l)→l.length≤c→l.length*64≤reach→deep≤1000→
  Calls Tryz.prog 88 #[exV k n s o A l.length c,.int .i64 deep] w fun e w'=>e= .returned (.bool (Ex.may (.mk k n s o l) deep))∧Fr Non w w':=by
 induction N with
 |zero=>intro k n s o l ok A c deep w h;simp[Ex.size] at h
 |succ N ih=>
  intro k n s o l ok A c deep w hN hr hlc hc hd;have hlen:l.length≤140737488355328:=by unfold reach at hc;omega
  have hN':Ex.sizes l≤N:=by simp[Ex.size] at hN;omega
  clear hN;by_cases h40:deep≤40
  ·have h40':decide ((40:Int)<(deep:Int))=false:=by simp;omega
   cases hs:shapeM (.mk k n s o l) with
   |false=>
    have HF:=Zh (show Ex.may (.mk k n s o l) deep=false by simp[Ex.may,hs]);have HS:=Zh hs;clear hs;go_enter Tryz.func88,Tryz.ntmps88;go_wp2_with fail;refine(shape_any _ _ _ _ _ _ _ _).mono ?_;rintro e w1 ⟨rfl,hf⟩;rw[HS.out];go_wp2_with fail;go_ret;exact⟨ret_bool HF.out.symm,box_fr hf⟩
   |true=>
    have HF:=Zh (show Ex.may (.mk k n s o l) deep=l.all (Ex.may · (deep+1)) by simp[Ex.may,hs,h40,mays_all]);have HS:=Zh hs;clear hs;go_enter Tryz.func88,Tryz.ntmps88;go_wp2_with fail;refine(shape_any _ _ _ _ _ _ _ _).mono ?_;rintro e w1 ⟨rfl,hf⟩;rw[HS.out];have g4:=box_cells hf (non _) 4 _ rfl;have hr1:=hr.fr (box_fr hf) (fun _ _=>non _) (fun _ h=>h);have HB:=Zh (box_fr hf);clear hf;have HR:=Zh hr1;clear hr hr1;have IH:=Zh ih;clear ih;go_wp2_with fail
    go_loopw [5] (fun i wr=>∃j:Nat,i= .int .i64 j∧j≤l.length∧Fr Non w1 wr∧∀q,q<j→∀hq:q<l.length,Ex.may l[q] (deep+1)=true) (fun i _=>l.length-(intOf i).toNat)
    case atStart=>exact⟨0,rfl,by omega,Zf _,fun j hj=>by omega⟩
    case round=>
     obtain⟨j,rfl,hj,hfr,hno⟩:=hrel;have HN:=Zh hno;clear hno;have g4':=hfr.cell' g4 (non _);by_cases hlt:j<l.length
     ·have hr2:=HR.out.fr hfr (fun _ _=>non _) (fun _ h=>h);obtain⟨b,o',A',c',rfl,hb,e0,e1,e2,e3,e4,p1,p2,p3⟩:=at_ex hr2 j hlt;have P3:=Zh p3;clear p3 hr2;have HQ:=Zh (size_le l j hlt);go_wp2_with fail;refine(IH.out _ _ _ _ _ ok A' c' (deep+1) _ (by rw[ex_eta];have:=HQ.out;omega) P3.out p1 p2 (by omega)).mono ?_;rintro e w2 ⟨rfl,hf2⟩;rw[ex_eta];generalize hm:Ex.may l[j] (deep+1)=m;cases m with
      |true=>
       have HM:=Zh hm;clear hm;go_wp2_with fail;go_roundw
       case rel=>exact⟨j+1,by go_num,by omega,hfr.trans hf2,till HN.out fun _=>HM.out⟩
       case measure=>simp[intOf];omega
      |false=>
       have HM:=Zh hm;clear hm;go_wp2_with fail;go_ret;exact⟨ret_bool (by rw[HF.out];exact(all_false_of j hlt HM.out).symm),(HB.out.trans hfr).trans hf2⟩
     ·go_wp2_with fail;go_ret;exact⟨ret_bool (by rw[HF.out];exact(all_true_of fun q hq=>HN.out q (by omega) hq).symm),HB.out.trans hfr⟩
  ·go_enter Tryz.func88,Tryz.ntmps88;go_wp2_with fail;go_ret;exact⟨ret_bool (by simp[Ex.may,h40]),(Zf _).alloc _⟩
theorem mayE_any (k:UInt8) (n:UInt64) (s:ByteArray) (o:UInt8) (l:List Ex) (ok:Nat→Prop) (A:Option Addr) (c:Nat) (w:World) (hr:RdRows ok w 5 A 0 (Ex.ds l)) (h1:l.length≤c) (h2:l.length*64≤reach):
  Calls Tryz.prog 59 #[exV k n s o A l.length c] w fun e w'=>e= .returned (.bool (Ex.may (.mk k n s o l) 1))∧Fr Non w w':=by
 have HR:=Zh (hr.fr ((Zf w).alloc (.cells #[vu8 k,vu64 n,.string s,vu8 o,.slice A l.length c] 44)) (fun _ _=>non _) (fun _ h=>h));clear hr;go_enter Tryz.func59,Tryz.ntmps59;go_wp2_with fail;refine(may_any (Ex.size (.mk k n s o l)) _ _ _ _ _ ok A c 1 _ (Nat.le_refl _) HR.out h1 h2 (by omega)).mono ?_;rintro e w2 ⟨rfl,hf⟩;go_wp2_with fail;go_ret;exact⟨rfl,box_fr hf⟩
mutual
def St.size:St→Nat
 | .mk _ _ _ _ _ _ _ body els=>1+St.sizes body+St.sizes els
def St.sizes:List St→Nat
 |[]=>0
 |s::l=>s.size+St.sizes l
end
theorem St.size_eq (s:St):s.size=1+St.sizes s.body+St.sizes s.els:=by cases s;rfl
theorem ssize_le:∀(l:List St) (k:Nat) (h:k<l.length),l[k].size≤St.sizes l
 |e::l,0,_=>by simp[St.sizes]
 |e::l,k+1,h=>by have:=ssize_le l k (by simpa using h);simp[St.sizes];omega
def nIs (k:UInt8):Bool:=decide (1≤k.toNat∧k.toNat≤12)
def nEx (k:UInt8):Int:=if k.toNat=4∨k.toNat=8 then 2 else if k.toNat=11 then -1 else if k.toNat=1∨k.toNat=2∨k.toNat=3∨k.toNat=5∨k.toNat=6∨k.toNat=7∨k.toNat=10 then 1 else 0
def nName (k:UInt8):Bool:=decide (k.toNat=1∨k.toNat=2∨k.toNat=3∨k.toNat=4∨k.toNat=7∨k.toNat=8∨k.toNat=9∨k.toNat=10)
def nFrom (k:UInt8):Bool:=decide (k.toNat=8∨k.toNat=9∨k.toNat=11)
def nSec (k:UInt8):Bool:=decide (k.toNat=1∨k.toNat=3)
def nMut (k:UInt8):Bool:=decide (k.toNat=8)
def nBody (k:UInt8):Bool:=decide (5≤k.toNat∧k.toNat≤8)
def nElse (k:UInt8):Bool:=decide (k.toNat=5)
def needV (k:UInt8):Value:=.agg #[.int .i64 (nEx k),.bool (nName k),.bool (nFrom k),.bool (nSec k),.bool (nMut k),.bool (nBody k),.bool (nElse k)]
theorem needV_at (k:UInt8) (n:Nat) (h:k.toNat=n) (hn:n<256):needV k=needV (UInt8.ofNat n)∧nIs k=nIs (UInt8.ofNat n):=by
 obtain rfl:k=UInt8.ofNat n:=UInt8.toNat.inj (by rw[h];simp;omega);exact⟨rfl,rfl⟩
theorem needV_no (k:UInt8) (h:k.toNat=0∨12<k.toNat):needV k= .agg #[.int .i64 0,.bool false,.bool false,.bool false,.bool false,.bool false,.bool false]∧nIs k=false:=by
 unfold needV nEx nName nFrom nSec nMut nBody nElse nIs
 repeat rw[if_neg (by omega)]
 repeat rw[decide_eq_false (by omega)]
 exact⟨rfl,rfl⟩
theorem needs_any (k:UInt8) (w:World):Calls Tryz.prog 53 #[vu8 k] w fun e w'=>e= .returned (.tuple #[needV k,.bool (nIs k)])∧Fr Non w w':=by
 have hc:=k.toNat_lt;go_enter Tryz.func53,Tryz.ntmps53;go_wp2_with fail;all_goals simp only[beq_iff_eq,beq_eq_false_iff_ne,ne_eq] at*
 all_goals first
  |(have hk:k.toNat=1:=by omega
    obtain⟨h1,h2⟩:=needV_at k 1 hk (by omega);rw[h1,h2];refine bodyPost_ret (v:=.tuple #[needV (UInt8.ofNat 1),.bool (nIs (UInt8.ofNat 1))]) (by simp[results,Tryz.results53,go_sem,needV,nEx,nName,nFrom,nSec,nMut,nBody,nElse,nIs]) rfl ⟨rfl,?_⟩)
  |(have hk:k.toNat=2:=by omega
    obtain⟨h1,h2⟩:=needV_at k 2 hk (by omega);rw[h1,h2];refine bodyPost_ret (v:=.tuple #[needV (UInt8.ofNat 2),.bool (nIs (UInt8.ofNat 2))]) (by simp[results,Tryz.results53,go_sem,needV,nEx,nName,nFrom,nSec,nMut,nBody,nElse,nIs]) rfl ⟨rfl,?_⟩)
  |(have hk:k.toNat=3:=by omega
    obtain⟨h1,h2⟩:=needV_at k 3 hk (by omega);rw[h1,h2];refine bodyPost_ret (v:=.tuple #[needV (UInt8.ofNat 3),.bool (nIs (UInt8.ofNat 3))]) (by simp[results,Tryz.results53,go_sem,needV,nEx,nName,nFrom,nSec,nMut,nBody,nElse,nIs]) rfl ⟨rfl,?_⟩)
  |(have hk:k.toNat=4:=by omega
    obtain⟨h1,h2⟩:=needV_at k 4 hk (by omega);rw[h1,h2];refine bodyPost_ret (v:=.tuple #[needV (UInt8.ofNat 4),.bool (nIs (UInt8.ofNat 4))]) (by simp[results,Tryz.results53,go_sem,needV,nEx,nName,nFrom,nSec,nMut,nBody,nElse,nIs]) rfl ⟨rfl,?_⟩)
  |(have hk:k.toNat=5:=by omega
    obtain⟨h1,h2⟩:=needV_at k 5 hk (by omega);rw[h1,h2];refine bodyPost_ret (v:=.tuple #[needV (UInt8.ofNat 5),.bool (nIs (UInt8.ofNat 5))]) (by simp[results,Tryz.results53,go_sem,needV,nEx,nName,nFrom,nSec,nMut,nBody,nElse,nIs]) rfl ⟨rfl,?_⟩)
  |(have hk:k.toNat=6:=by omega
    obtain⟨h1,h2⟩:=needV_at k 6 hk (by omega);rw[h1,h2];refine bodyPost_ret (v:=.tuple #[needV (UInt8.ofNat 6),.bool (nIs (UInt8.ofNat 6))]) (by simp[results,Tryz.results53,go_sem,needV,nEx,nName,nFrom,nSec,nMut,nBody,nElse,nIs]) rfl ⟨rfl,?_⟩)
  |(have hk:k.toNat=7:=by omega
    obtain⟨h1,h2⟩:=needV_at k 7 hk (by omega);rw[h1,h2];refine bodyPost_ret (v:=.tuple #[needV (UInt8.ofNat 7),.bool (nIs (UInt8.ofNat 7))]) (by simp[results,Tryz.results53,go_sem,needV,nEx,nName,nFrom,nSec,nMut,nBody,nElse,nIs]) rfl ⟨rfl,?_⟩)
  |(have hk:k.toNat=8:=by omega
    obtain⟨h1,h2⟩:=needV_at k 8 hk (by omega);rw[h1,h2];refine bodyPost_ret (v:=.tuple #[needV (UInt8.ofNat 8),.bool (nIs (UInt8.ofNat 8))]) (by simp[results,Tryz.results53,go_sem,needV,nEx,nName,nFrom,nSec,nMut,nBody,nElse,nIs]) rfl ⟨rfl,?_⟩)
  |(have hk:k.toNat=9:=by omega
    obtain⟨h1,h2⟩:=needV_at k 9 hk (by omega);rw[h1,h2];refine bodyPost_ret (v:=.tuple #[needV (UInt8.ofNat 9),.bool (nIs (UInt8.ofNat 9))]) (by simp[results,Tryz.results53,go_sem,needV,nEx,nName,nFrom,nSec,nMut,nBody,nElse,nIs]) rfl ⟨rfl,?_⟩)
  |(have hk:k.toNat=10:=by omega
    obtain⟨h1,h2⟩:=needV_at k 10 hk (by omega);rw[h1,h2];refine bodyPost_ret (v:=.tuple #[needV (UInt8.ofNat 10),.bool (nIs (UInt8.ofNat 10))]) (by simp[results,Tryz.results53,go_sem,needV,nEx,nName,nFrom,nSec,nMut,nBody,nElse,nIs]) rfl ⟨rfl,?_⟩)
  |(have hk:k.toNat=11:=by omega
    obtain⟨h1,h2⟩:=needV_at k 11 hk (by omega);rw[h1,h2];refine bodyPost_ret (v:=.tuple #[needV (UInt8.ofNat 11),.bool (nIs (UInt8.ofNat 11))]) (by simp[results,Tryz.results53,go_sem,needV,nEx,nName,nFrom,nSec,nMut,nBody,nElse,nIs]) rfl ⟨rfl,?_⟩)
  |(have hk:k.toNat=12:=by omega
    obtain⟨h1,h2⟩:=needV_at k 12 hk (by omega);rw[h1,h2];refine bodyPost_ret (v:=.tuple #[needV (UInt8.ofNat 12),.bool (nIs (UInt8.ofNat 12))]) (by simp[results,Tryz.results53,go_sem,needV,nEx,nName,nFrom,nSec,nMut,nBody,nElse,nIs]) rfl ⟨rfl,?_⟩)
  |(obtain⟨h1,h2⟩:=needV_no k (by omega)
    rw[h1,h2];refine bodyPost_ret (v:=.tuple #[.agg #[.int .i64 0,.bool false,.bool false,.bool false,.bool false,.bool false,.bool false],.bool false]) (by simp[results,Tryz.results53,go_sem]) rfl ⟨rfl,?_⟩)
 all_goals first|exact(Zf w).alloc _|exact((Zf w).alloc _).setCell _ _ (.inr (Nat.le_refl _))
def namedX (s:ByteArray) (b:Bool):Bool:=if b then namedM s else emp s
theorem namedX_any (s:ByteArray) (b:Bool) (w:World):Calls Tryz.prog 54 #[.string s,.bool b] w fun e w'=>e= .returned (.bool (namedX s b))∧Fr Non w w':=by
 cases b with
 |true=>
  go_enter Tryz.func54,Tryz.ntmps54;go_wp2_with fail;refine(named_any _ _).mono ?_;rintro e w1 ⟨rfl,hf⟩;go_wp2_with fail;go_ret;exact⟨rfl,hf⟩
 |false=>
  go_enter Tryz.func54,Tryz.ntmps54;go_wp2_with fail;go_ret;exact⟨ret_bool (by first|rfl|(rw[toemp];rfl)),Zf _⟩
theorem names_any (l:List ByteArray) (ok:Nat→Prop) (A:Option Addr) (c:Nat) (w:World) (hr:RdRows ok w 1 A 0 (l.map strD)) (hc:l.length*16≤reach):
  Calls Tryz.prog 55 #[.slice A l.length c] w fun e w'=>e= .returned (.bool (l.all namedM))∧Fr Non w w':=by
 have hlen:l.length≤140737488355328:=by unfold reach at hc;omega
 have HR:=Zh hr;clear hr;go_enter Tryz.func55,Tryz.ntmps55;go_wp2_with fail
 go_loopw [3] (fun i wr=>∃j:Nat,i= .int .i64 j∧j≤l.length∧Fr Non w wr∧∀q,q<j→∀hq:q<l.length,namedM l[q]=true) (fun i _=>l.length-(intOf i).toNat)
 case atStart=>exact⟨0,rfl,by omega,Zf _,fun j hj=>by omega⟩
 case round=>
  obtain⟨j,rfl,hj,hfr,hno⟩:=hrel;have HN:=Zh hno;clear hno;by_cases hlt:j<l.length
  ·obtain⟨b,o1,rfl,hb,e0⟩:=at_str (HR.out.fr hfr (fun _ _=>non _) (fun _ h=>h)) j hlt;go_wp2_with fail;refine(named_any _ _).mono ?_;rintro e w2 ⟨rfl,hf2⟩;generalize hm:namedM l[j]=m;have HM:=Zh hm;clear hm;cases m with
   |true=>
    go_wp2_with fail;go_roundw
    case rel=>exact⟨j+1,by go_num,by omega,hfr.trans hf2,till HN.out fun _=>HM.out⟩
    case measure=>simp[intOf];omega
   |false=>
    go_wp2_with fail;go_ret;exact⟨ret_bool (all_false_of j hlt HM.out).symm,hfr.trans hf2⟩
  ·go_wp2_with fail;go_ret;exact⟨ret_bool (all_true_of fun q hq=>HN.out q (by omega) hq).symm,hfr⟩
def exM (e:Ex):Bool:=Ex.may e 1
theorem exM_any (e:Ex) (ok:Nat→Prop) (A:Option Addr) (c:Nat) (w:World) (hr:RdRows ok w 5 A 0 (Ex.ds e.kids)) (h1:e.kids.length≤c) (h2:e.kids.length*64≤reach):
  Calls Tryz.prog 59 #[exV e.kind e.num e.name e.op A e.kids.length c] w fun r w'=>r= .returned (.bool (exM e))∧Fr Non w w':=by
 have:=mayE_any e.kind e.num e.name e.op e.kids ok A c w hr h1 h2;rw[ex_eta] at this;exact this
theorem exprsM_any (l:List Ex) (n:Int) (ok:Nat→Prop) (A:Option Addr) (c:Nat) (w:World) (hr:RdRows ok w 5 A 0 (Ex.ds l)) (hc:l.length*64≤reach):
  Calls Tryz.prog 42 #[.slice A l.length c,.int .i64 n] w fun e w'=>e= .returned (.bool (l.all exM&&((l.length:Int)==n)))∧Fr Non w w':=by
 have hlen:l.length≤140737488355328:=by unfold reach at hc;omega
 have HR:=Zh hr;clear hr;go_enter Tryz.func42,Tryz.ntmps42;go_wp2_with fail
 go_loopw [5] (fun i wr=>∃j:Nat,i= .int .i64 j∧j≤l.length∧Fr Non w wr∧∀q,q<j→∀hq:q<l.length,exM l[q]=true) (fun i _=>l.length-(intOf i).toNat)
 case atStart=>exact⟨0,rfl,by omega,Zf _,fun j hj=>by omega⟩
 case round=>
  obtain⟨j,rfl,hj,hfr,hno⟩:=hrel;have HN:=Zh hno;clear hno;by_cases hlt:j<l.length
  ·obtain⟨b,o1,A1,c1,rfl,hb,e0,e1,e2,e3,e4,p1,p2,p3⟩:=at_ex (HR.out.fr hfr (fun _ _=>non _) (fun _ h=>h)) j hlt;have P3:=Zh p3;clear p3;go_wp2_with fail;refine(exM_any l[j] ok A1 c1 _ P3.out p1 p2).mono ?_;rintro e w2 ⟨rfl,hf2⟩;generalize hm:exM l[j]=m;have HM:=Zh hm;clear hm;cases m with
   |true=>
    go_wp2_with fail;go_roundw
    case rel=>exact⟨j+1,by go_num,by omega,hfr.trans hf2,till HN.out fun _=>HM.out⟩
    case measure=>simp[intOf];omega
   |false=>
    go_wp2_with fail;go_ret;exact⟨ret_bool (by rw[all_false_of j hlt HM.out];rfl),hfr.trans hf2⟩
  ·go_wp2_with fail;go_ret;exact⟨ret_bool (by rw[all_true_of (l:=l) fun q hq=>HN.out q (by omega) hq];rfl),hfr⟩
def headM (k:UInt8) (f:ByteArray) (s m:Bool) (nb ne:Nat):Bool:=nIs k&&(!s||nSec k)&&(!m||nMut k)&&(nb==0||nBody k)&&(ne==0||nElse k)&&namedX f (nFrom k)
def callM (n:ByteArray) (ex:List Ex) (args:List ByteArray):Bool:=(emp n||namedM n)&&ex.all exM&&decide (ex.length≤8)&&args.all namedM&&decide (args.length≤8)
def restM (k:UInt8) (n:ByteArray) (ex:List Ex) (args:List ByteArray):Bool:=namedX n (nName k)&&(args.length==0)&&(ex.all exM&&((ex.length:Int)==nEx k))
def formM (s:St):Bool:=headM s.kind s.frm s.sec s.mt s.body.length s.els.length&&if s.kind.toNat=11 then callM s.name s.ex s.args else restM s.kind s.name s.ex s.args
theorem form_any (s:St) (ok:Nat→Prop) (A1 A2 A3 A4:Option Addr) (c1 c2 c3 c4:Nat) (w:World) (r1:RdRows ok w 5 A1 0 (Ex.ds s.ex)) (q1:s.ex.length*64≤reach) (r2:RdRows ok w 1 A2 0 (s.args.map strD)) (q2:s.args.length*16≤reach) (q3:s.body.length*144≤reach) (q4:s.els.length*144≤reach):
  Calls Tryz.prog 40 #[.agg #[vu8 s.kind,.string s.name,.string s.frm,.bool s.sec,.bool s.mt,.slice A1 s.ex.length c1,.slice A2 s.args.length c2,.slice A3 s.body.length c3,.slice A4 s.els.length c4]] w fun e w'=>e= .returned (.bool (formM s))∧Fr Non w w':=by
 have hl1:s.ex.length≤140737488355328:=by unfold reach at q1;omega
 have hl2:s.args.length≤140737488355328:=by unfold reach at q2;omega
 have hl3:s.body.length≤140737488355328:=by unfold reach at q3;omega
 have hl4:s.els.length≤140737488355328:=by unfold reach at q4;omega
 have R1:=Zh r1;clear r1;have R2:=Zh r2;clear r2;have Q1:=Zh q1;clear q1;have Q2:=Zh q2;clear q2 q3 q4;go_enter Tryz.func40,Tryz.ntmps40;go_wp2_with fail;refine(needs_any _ _).mono ?_;rintro e w1 ⟨rfl,hf1⟩;have hb1:=Zb (blk_new _ _ _) hf1 (non _);have HF1:=Zh (box_fr hf1);clear hf1;have HB1:=Zh hb1;clear hb1;unfold needV;go_upto_region 2 with fail;obtain⟨W1,HW1⟩:∃W1,W1=w1.alloc (.cells #[.int .i64 (nEx s.kind),.bool (nName s.kind),.bool (nFrom s.kind),.bool (nSec s.kind),.bool (nMut s.kind),.bool (nBody s.kind),.bool (nElse s.kind)] 87):=⟨_,rfl⟩;rw[←HW1];have hbb:W1.heap[w.heap.size]? =some (.cells #[vu8 s.kind,.string s.name,.string s.frm,.bool s.sec,.bool s.mt,.slice A1 s.ex.length c1,.slice A2 s.args.length c2,.slice A3 s.body.length c3,.slice A4 s.els.length c4] 47 (0,0)):=by rw[HW1];exact blk_old HB1.out
 have hbn:W1.heap[w1.heap.size]? =some (.cells #[.int .i64 (nEx s.kind),.bool (nName s.kind),.bool (nFrom s.kind),.bool (nSec s.kind),.bool (nMut s.kind),.bool (nBody s.kind),.bool (nElse s.kind)] 87 (0,0)):=by rw[HW1];exact blk_new _ _ _
 have hfw:Fr Non w W1:=by rw[HW1];exact HF1.out.alloc _
 clear HW1;have b2:=(Zc hbb).1 2 _ rfl;have b3:=(Zc hbb).1 3 _ rfl;have b4:=(Zc hbb).1 4 _ rfl;have b7:=(Zc hbb).1 7 _ rfl;have b8:=(Zc hbb).1 8 _ rfl;have n2:=(Zc hbn).1 2 _ rfl;have n3:=(Zc hbn).1 3 _ rfl;have n4:=(Zc hbn).1 4 _ rfl;have n5:=(Zc hbn).1 5 _ rfl;have n6:=(Zc hbn).1 6 _ rfl;have HBB:=Zh hbb;clear hbb;have HBN:=Zh hbn;clear hbn;have HFW:=Zh hfw;clear hfw
 go_cut [0,4,60] (fun v0 v4 v wx=>v= .bool (!headM s.kind s.frm s.sec s.mt s.body.length s.els.length)∧Fr Non W1 wx)
 case first=>
  go_wp2_with fail;all_goals try
   refine(namedX_any _ _ _).mono ?_;rintro e w2 ⟨rfl,hf2⟩;go_wp2_with fail
  all_goals go_meet
  all_goals (refine⟨congrArg Value.bool ?_,?_⟩;rotate_left;first|exact Zf _|exact hf2)
  all_goals (clear b2 b3 b4 b7 b8 n2 n3 n4 n5 n6 HBB HBN HF1 HB1 HFW R1 R2 Q1 Q2)
  all_goals simp_all [headM,Nat.pos_iff_ne_zero]
 case rest=>
  obtain⟨rfl,hfx⟩:=hcut;have hbb':=Zb HBB.out hfx (non _);have hbn':=Zb HBN.out hfx (non _);have HFX:=Zh (HFW.out.trans hfx);clear hfx b2 b3 b4 b7 b8 n2 n3 n4 n5 n6;have b0:=(Zc hbb').1 0 _ rfl;have b1:=(Zc hbb').1 1 _ rfl;have b5:=(Zc hbb').1 5 _ rfl;have b6:=(Zc hbb').1 6 _ rfl;have n0:=(Zc hbn').1 0 _ rfl;have n1:=(Zc hbn').1 1 _ rfl;have HBB':=Zh hbb';clear hbb';have HBN':=Zh hbn';clear hbn';generalize hh:headM s.kind s.frm s.sec s.mt s.body.length s.els.length=hd;have HH:=Zh hh;clear hh;cases hd with
  |false=>
   go_wp2_with fail;go_ret;exact⟨ret_bool (by rw[formM,HH.out];rfl),HFX.out⟩
  |true=>
   by_cases hk:s.kind.toNat=11
   ·have hk':(((s.kind.toNat:Int))==11)=true:=by simp[hk]
    have HK:=Zh hk;clear hk;cases he:emp s.name with
    |true=>
     have he':s.name.toList.isEmpty=true:=by rw[toemp];exact he
     have EE:=Zh (show(emp s.name||namedM s.name)=true by rw[he];rfl);clear he;go_wp2_with fail;have b5':=b5;have b6':=b6;clear b0 b1 b5 b6 n0 n1;have HF2:=HFX;refine(exprsM_any s.ex _ ok A1 c1 _ (R1.out.fr HF2.out (fun _ _=>non _) (fun _ h=>h)) Q1.out).mono ?_;rintro e w3 ⟨rfl,hf3⟩;rw[show(s.ex.all exM&&((s.ex.length:Int)==(s.ex.length:Int)))=s.ex.all exM by simp];have b5'':=hf3.cell' b5' (non _);have b6'':=hf3.cell' b6' (non _);clear b5' b6';have HF3:=Zh (HF2.out.trans hf3);clear hf3;generalize hm2:s.ex.all exM=m2;have HM2:=Zh hm2;clear hm2;cases m2 with
     |false=>
      go_wp2_with fail;go_ret;exact⟨ret_bool (by rw[formM,HH.out,if_pos HK.out,callM,EE.out,HM2.out];rfl),HF3.out⟩
     |true=>
     by_cases h8:s.ex.length≤8
     ·have H8:=Zh (decide_eq_true h8);go_wp2_with fail;refine(names_any s.args ok A2 c2 _ (R2.out.fr HF3.out (fun _ _=>non _) (fun _ h=>h)) Q2.out).mono ?_;rintro e w4 ⟨rfl,hf4⟩;have b6''':=hf4.cell' b6'' (non _);clear b5'' b6'';have HF4:=Zh (HF3.out.trans hf4);clear hf4;generalize hm3:s.args.all namedM=m3;have HM3:=Zh hm3;clear hm3;cases m3 with
      |false=>
       go_wp2_with fail;go_ret;exact⟨ret_bool (by rw[formM,HH.out,if_pos HK.out,callM,EE.out,HM2.out,H8.out,HM3.out];rfl),HF4.out⟩
      |true=>
       go_wp2_with fail;go_ret;exact⟨ret_bool (by rw[formM,HH.out,if_pos HK.out,callM,EE.out,HM2.out,H8.out,HM3.out,Bool.eq_iff_iff];simp;try omega),HF4.out⟩
     ·have H8:=Zh (decide_eq_false h8);go_wp2_with fail;go_ret;exact⟨ret_bool (by rw[formM,HH.out,if_pos HK.out,callM,EE.out,HM2.out,H8.out];rfl),HF3.out⟩
    |false=>
     have he':s.name.toList.isEmpty=false:=by rw[toemp];exact he
     have HE:=Zh he;clear he;go_wp2_with fail;refine(named_any _ _).mono ?_;rintro e w2 ⟨rfl,hf2⟩;have b5':=hf2.cell' b5 (non _);have b6':=hf2.cell' b6 (non _);clear b0 b1 b5 b6 n0 n1;have HF2:=Zh (HFX.out.trans hf2);clear hf2;generalize hm:namedM s.name=m;have EE:=Zh (show(emp s.name||namedM s.name)=m by rw[HE.out,hm];rfl);clear hm;cases m with
     |false=>
      go_wp2_with fail;go_ret;exact⟨ret_bool (by rw[formM,HH.out,if_pos HK.out,callM,EE.out];rfl),HF2.out⟩
     |true=>
     go_wp2_with fail;refine(exprsM_any s.ex _ ok A1 c1 _ (R1.out.fr HF2.out (fun _ _=>non _) (fun _ h=>h)) Q1.out).mono ?_;rintro e w3 ⟨rfl,hf3⟩;rw[show(s.ex.all exM&&((s.ex.length:Int)==(s.ex.length:Int)))=s.ex.all exM by simp];have b5'':=hf3.cell' b5' (non _);have b6'':=hf3.cell' b6' (non _);clear b5' b6';have HF3:=Zh (HF2.out.trans hf3);clear hf3;generalize hm2:s.ex.all exM=m2;have HM2:=Zh hm2;clear hm2;cases m2 with
     |false=>
      go_wp2_with fail;go_ret;exact⟨ret_bool (by rw[formM,HH.out,if_pos HK.out,callM,EE.out,HM2.out];rfl),HF3.out⟩
     |true=>
     by_cases h8:s.ex.length≤8
     ·have H8:=Zh (decide_eq_true h8);go_wp2_with fail;refine(names_any s.args ok A2 c2 _ (R2.out.fr HF3.out (fun _ _=>non _) (fun _ h=>h)) Q2.out).mono ?_;rintro e w4 ⟨rfl,hf4⟩;have b6''':=hf4.cell' b6'' (non _);clear b5'' b6'';have HF4:=Zh (HF3.out.trans hf4);clear hf4;generalize hm3:s.args.all namedM=m3;have HM3:=Zh hm3;clear hm3;cases m3 with
      |false=>
       go_wp2_with fail;go_ret;exact⟨ret_bool (by rw[formM,HH.out,if_pos HK.out,callM,EE.out,HM2.out,H8.out,HM3.out];rfl),HF4.out⟩
      |true=>
       go_wp2_with fail;go_ret;exact⟨ret_bool (by rw[formM,HH.out,if_pos HK.out,callM,EE.out,HM2.out,H8.out,HM3.out,Bool.eq_iff_iff];simp;try omega),HF4.out⟩
     ·have H8:=Zh (decide_eq_false h8);go_wp2_with fail;go_ret;exact⟨ret_bool (by rw[formM,HH.out,if_pos HK.out,callM,EE.out,HM2.out,H8.out];rfl),HF3.out⟩
   ·have hk':(((s.kind.toNat:Int))==11)=false:=by simp;omega
    have HK:=Zh hk;clear hk;go_wp2_with fail;refine(namedX_any _ _ _).mono ?_;rintro e w2 ⟨rfl,hf2⟩;have b5':=hf2.cell' b5 (non _);have b6':=hf2.cell' b6 (non _);have n0':=hf2.cell' n0 (non _);clear b0 b1 b5 b6 n0 n1;generalize hm:namedX s.name (nName s.kind)=m;have HM:=Zh hm;clear hm;have HF2:=Zh (HFX.out.trans hf2);clear hf2;cases m with
    |false=>
     go_wp2_with fail;go_ret;exact⟨ret_bool (by rw[formM,HH.out,if_neg HK.out,restM,HM.out];rfl),HF2.out⟩
    |true=>
     by_cases hz:s.args.length=0
     ·have hz':(((s.args.length:Int))==0)=true:=by simp[hz]
      have HZ:=Zh hz;clear hz;go_wp2_with fail;refine(exprsM_any s.ex _ ok A1 c1 _ (R1.out.fr HF2.out (fun _ _=>non _) (fun _ h=>h)) Q1.out).mono ?_;rintro e w3 ⟨rfl,hf3⟩;go_wp2_with fail;go_ret;exact⟨ret_bool (by rw[formM,HH.out,if_neg HK.out,restM,HM.out,HZ.out];rfl),HF2.out.trans hf3⟩
     ·have hz':(((s.args.length:Int))==0)=false:=by simp;intro h;simp[h] at hz
      have HZ:=Zh (show(s.args.length==0)=false by simp;intro h;simp[h] at hz);clear hz;go_wp2_with fail;go_ret;exact⟨ret_bool (by rw[formM,HH.out,if_neg HK.out,restM,HM.out,HZ.out];rfl),HF2.out⟩
mutual
def St.ok:St→Nat→Bool
 | .mk k n f s m ex args body els,deep=>decide (deep≤40)&&formM (.mk k n f s m ex args body els)&&St.oks body (deep+1)&&St.oks els (deep+1)
def St.oks:List St→Nat→Bool
 |[],_=>true
 |s::l,deep=>St.ok s deep&&St.oks l deep
end
theorem oks_true:∀(l:List St) (d:Nat),(∀j (h:j<l.length),St.ok l[j] d=true)→St.oks l d=true
 |[],_,_=>rfl
 |e::l,d,h=>by
  simp only[St.oks,Bool.and_eq_true];exact⟨h 0 (by simp),oks_true l d fun j hj=>h (j+1) (by simpa using hj)⟩
theorem oks_false:∀(l:List St) (d:Nat) (j:Nat) (h:j<l.length),St.ok l[j] d=false→St.oks l d=false
 |e::l,d,0,_,h=>by simp[St.oks,show St.ok e d=false from h]
 |e::l,d,j+1,h1,h=>by simp[St.oks,oks_false l d j (by simpa using h1) (by simpa using h)]
theorem St.ok_eq (s:St) (d:Nat):s.ok d=(decide (d≤40)&&formM s&&St.oks s.body (d+1)&&St.oks s.els (d+1)):=by cases s;rfl
theorem sizes_take (l:List St) (j:Nat) (h:j<l.length):St.sizes (l.take (j+1))=St.sizes (l.take j)+l[j].size:=by
 induction l generalizing j with
 |nil=>simp at h
 |cons e l ih=>
  cases j with
  |zero=>simp[St.sizes]
  |succ j=>have:=ih j (by simpa using h);simp[St.sizes] at this ⊢;omega
theorem sizes_take_le (l:List St) (j:Nat):St.sizes (l.take j)≤St.sizes l:=by
 induction l generalizing j with
 |nil=>simp[St.sizes]
 |cons e l ih=>
  cases j with
  |zero=>simp[St.sizes]
  |succ j=>have:=ih j;simp[St.sizes];omega
def cntM (l:List St) (d:Nat):Int:=if St.oks l d then(St.sizes l:Int) else -1
theorem cnt_true {l:List St} {d:Nat} (h:St.oks l d=true):cntM l d=St.sizes l:=if_pos h
theorem cnt_false {l:List St} {d:Nat} (h:St.oks l d=false):cntM l d= -1:=if_neg (by simp[h])
theorem count_any (N:Nat):∀(l:List St) (deep:Nat) (ok:Nat→Prop) (A:Option Addr) (c:Nat) (w:World),St.sizes l≤N→St.sizes l≤1099511627776→deep≤41→RdRows ok w 9 A 0 (St.ds l)→l.length*144≤reach→
  Calls Tryz.prog 27 #[.slice A l.length c,.int .i64 (deep:Int)] w fun e w'=>e= .returned (.int .i64 (cntM l deep))∧Fr Non w w':=by
 induction N with
 |zero=>
  intro l deep ok A c w hN hN2 hd hr hc;obtain rfl:l=[]:=by cases l with|nil=>rfl|cons s l=>cases s;simp[St.sizes,St.size] at hN
  go_enter Tryz.func27,Tryz.ntmps27;go_wp2_with fail;refine wp_loop_rounds 1 ?_;rw[rounds_succ];go_wp2_with fail;go_ret;exact⟨rfl,Zf _⟩
 |succ N ih=>
 intro l deep ok A c w hN hN2 hd hr hc;have hlen:l.length≤140737488355328:=by unfold reach at hc;omega
 have IH:=Zh ih;clear ih;have HR:=Zh hr;clear hr;have HC:=Zh hc;clear hc;have HNN:=Zh hN;clear hN;go_enter Tryz.func27,Tryz.ntmps27;go_wp2_with fail
 go_loopw [5,6] (fun t i wr=>∃j:Nat,i= .int .i64 j∧t= .int .i64 (St.sizes (l.take j))∧j≤l.length∧Fr Non w wr∧∀q,q<j→∀hq:q<l.length,St.ok l[q] deep=true) (fun _ i _=>l.length-(intOf i).toNat)
 case atStart=>exact⟨0,rfl,by simp[St.sizes],by omega,Zf _,fun j hj=>by omega⟩
 case round=>
  obtain⟨j,rfl,rfl,hj,hfr,hno⟩:=hrel;have HN:=Zh hno;clear hno;by_cases hlt:j<l.length
  ·obtain⟨b,o1,A1,c1,A2,c2,A3,c3,A4,c4,rfl,hb,e0,e1,e2,e3,e4,e5,e6,e7,e8,⟨p1,q1,r1⟩,⟨p2,q2,r2⟩,⟨p3,q3,r3⟩,⟨p4,q4,r4⟩⟩:=at_st (HR.out.fr hfr (fun _ _=>non _) (fun _ h=>h)) j hlt;have R1:=Zh r1;clear r1;have R2:=Zh r2;clear r2;have R3:=Zh r3;clear r3;have R4:=Zh r4;clear r4;have HQ:=Zh (ssize_le l j hlt);have HT:=Zh (sizes_take l j hlt);have HT2:=Zh (sizes_take_le l (j+1));have HF:=Zh hfr;clear hfr;by_cases hdd:deep≤40
   ·go_wp2_with fail;refine(form_any l[j] ok A1 A2 A3 A4 c1 c2 c3 c4 wr R1.out q1 R2.out q2 q3 q4).mono ?_;rintro e w2 ⟨rfl,hf2⟩;have x7:=ext_cell (hf2.cell' e7 (non _));have x8:=ext_cell (hf2.cell' e8 (non _));generalize hm:formM l[j]=m;have HM:=Zh hm;clear hm;clear e0 e1 e2 e3 e4 e5 e6 e7 e8;have HF2:=Zh (HF.out.trans hf2);have HG2:=Zh hf2;clear hf2;cases m with
    |false=>
     go_wp2_with fail;go_ret;exact⟨ret_int (cnt_false (oks_false _ _ j hlt (by rw[St.ok_eq,HM.out];simp))).symm,HF2.out⟩
    |true=>
     go_wp2_with fail;refine wp_region_ext (by kernel_rfl) (by kernel_rfl) ?_
     repeat (go_big_quiet_step (fail))
     go_big_quiet_want;go_big_quiet_op;apply Exists.intro;refine⟨fun x=>?_,?_⟩
     ·exact calls_ext (v:=.int .i64 (cntM l[j].body (deep+1))) (IH.out l[j].body (deep+1) ok A3 c3 _ (by have:=HNN.out;have:=HQ.out;rw[St.size_eq] at this;omega) (by have:=HQ.out;rw[St.size_eq] at this;omega) (by omega) (R3.out.fr (HG2.out.trans (ext_fr _ _)) (fun _ _=>non _) (fun _ h=>h)) q3)
     go_big_quiet_on
     repeat (go_big_quiet_step (fail))
     go_big_quiet_want;go_big_quiet_op;apply Exists.intro;refine⟨fun x=>?_,?_⟩
     ·exact calls_ext (v:=.int .i64 (cntM l[j].els (deep+1))) (IH.out l[j].els (deep+1) ok A4 c4 _ (by have:=HNN.out;have:=HQ.out;rw[St.size_eq] at this;omega) (by have:=HQ.out;rw[St.size_eq] at this;omega) (by omega) (R4.out.fr (HG2.out.trans (ext_fr _ _)) (fun _ _=>non _) (fun _ h=>h)) q4)
     go_big_quiet_on
     repeat (go_big_quiet_step (fail))
     refine wpQuiet_nil ?_;intro w3 hf3;clear x7 x8;have HF3:=Zh (HF2.out.trans hf3);clear hf3;have hs1:St.sizes (l.take j)+1+St.sizes l[j].body+St.sizes l[j].els≤1099511627776:=by have:=HT.out;have:=HT2.out;rw[St.size_eq] at*;omega
     cases hob:St.oks l[j].body (deep+1) with
     |false=>
      rw[cnt_false hob];have HB:=Zh hob;clear hob;go_wp2_with fail;go_ret;exact⟨ret_int (cnt_false (oks_false _ _ j hlt (by rw[St.ok_eq,HB.out];simp))).symm,HF3.out⟩
     |true=>
      rw[cnt_true hob];have HB:=Zh hob;clear hob;cases hoe:St.oks l[j].els (deep+1) with
      |false=>
       rw[cnt_false hoe];have HE:=Zh hoe;clear hoe;go_wp2_with fail;go_ret;exact⟨ret_int (cnt_false (oks_false _ _ j hlt (by rw[St.ok_eq,HE.out];simp))).symm,HF3.out⟩
      |true=>
       rw[cnt_true hoe];have HE:=Zh hoe;clear hoe;go_wp2_with fail;go_roundw
       case rel=>exact⟨j+1,by go_num,by rw[HT.out,St.size_eq];congr 1;omega,by omega,HF3.out,till HN.out fun _=>by rw[St.ok_eq,HM.out,HB.out,HE.out,decide_eq_true hdd];rfl⟩
       case measure=>simp[intOf];omega
   ·go_wp2_with fail;go_ret;exact⟨ret_int (cnt_false (oks_false _ _ j hlt (by rw[St.ok_eq,decide_eq_false hdd];rfl))).symm,HF.out⟩
  ·go_wp2_with fail;go_ret;obtain rfl:j=l.length:=by omega
   rw[List.take_length];exact⟨ret_int (cnt_true (oks_true _ _ fun q hq=>HN.out q (by omega) hq)).symm,hfr⟩
def parM (x:Pa):Bool:=namedM x.name&&(!x.mt||x.buf)
def fheadM (f:Fu):Bool:=namedM f.name&&decide (f.params.length≤8)&&decide (f.ret.length≤1)&&f.ret.all exM&& !(f.ret.length==0&&f.sec)
def funM (f:Fu):Bool:=fheadM f&&f.params.all parM
theorem function_any (f:Fu) (ok:Nat→Prop) (A1 A2 A3:Option Addr) (c1 c2 c3:Nat) (w:World) (r1:RdRows ok w 4 A1 0 (f.params.map Pa.d)) (q1:f.params.length*24≤reach) (r3:RdRows ok w 5 A3 0 (Ex.ds f.ret)) (q3:f.ret.length*64≤reach):
  Calls Tryz.prog 28 #[.agg #[.string f.name,.slice A1 f.params.length c1,.slice A2 f.body.length c2,.bool f.sec,.slice A3 f.ret.length c3]] w fun e w'=>e= .returned (.bool (funM f))∧Fr Non w w':=by
 have hl1:f.params.length≤140737488355328:=by unfold reach at q1;omega
 have hl3:f.ret.length≤140737488355328:=by unfold reach at q3;omega
 have R1:=Zh r1;clear r1;have R3:=Zh r3;clear r3;have Q3:=Zh q3;clear q1 q3;go_enter Tryz.func28,Tryz.ntmps28;go_upto_region 1 with fail;obtain⟨W1,HW1⟩:∃W1,W1=w.alloc (.cells #[.string f.name,.slice A1 f.params.length c1,.slice A2 f.body.length c2,.bool f.sec,.slice A3 f.ret.length c3] 36):=⟨_,rfl⟩;rw[←HW1];have hbb:W1.heap[w.heap.size]? =some (.cells #[.string f.name,.slice A1 f.params.length c1,.slice A2 f.body.length c2,.bool f.sec,.slice A3 f.ret.length c3] 36 (0,0)):=by rw[HW1];exact blk_new _ _ _
 have hfw:Fr Non w W1:=by rw[HW1];exact(Zf w).alloc _
 clear HW1;have HBB:=Zh hbb;clear hbb;have HFW:=Zh hfw;clear hfw
 go_cut [0,38] (fun v0 v wx=>v= .bool (!fheadM f)∧Fr Non W1 wx)
 case first=>
  have g0:=(Zc HBB.out).1 0 _ rfl;go_wp2_with fail;refine(named_any _ _).mono ?_;rintro e w2 ⟨rfl,hf2⟩;have hb2:=Zb HBB.out hf2 (non _);have g1:=(Zc hb2).1 1 _ rfl;have g3:=(Zc hb2).1 3 _ rfl;have g4:=(Zc hb2).1 4 _ rfl;clear g0;have HB2:=Zh hb2;clear hb2;generalize hm:namedM f.name=m;have HM:=Zh hm;clear hm;have HF2:=Zh hf2;clear hf2;cases m with
  |false=>
   go_wp2_with fail
   go_meet
   exact⟨congrArg Value.bool (by simp[fheadM,HM.out]<;>omega),HF2.out⟩
  |true=>
  by_cases h8:f.params.length≤8
  ·by_cases h1:f.ret.length≤1
   ·go_wp2_with fail;refine(exprsM_any f.ret _ ok A3 c3 _ (R3.out.fr (HFW.out.trans HF2.out) (fun _ _=>non _) (fun _ h=>h)) Q3.out).mono ?_;rintro e w3 ⟨rfl,hf3⟩;rw[show(f.ret.all exM&&((f.ret.length:Int)==(f.ret.length:Int)))=f.ret.all exM by simp];have hb3:=Zb HB2.out hf3 (non _);clear g1 g3 g4;have g3:=(Zc hb3).1 3 _ rfl;have g4:=(Zc hb3).1 4 _ rfl;have HB3:=Zh hb3;clear hb3;generalize hm2:f.ret.all exM=m2;have HM2:=Zh hm2;clear hm2;have HF3:=Zh (HF2.out.trans hf3);clear hf3;cases m2 with
    |false=>
     go_wp2_with fail
     go_meet
     exact⟨congrArg Value.bool (by simp[fheadM,HM2.out]<;>omega),HF3.out⟩
    |true=>
     by_cases hz:f.ret.length=0
     ·have HZ:=Zh hz;cases hs:f.sec with
      |true=>
       rw[hs] at g3;have HS:=Zh hs;clear hs;go_wp2_with fail
       go_meet
       exact⟨congrArg Value.bool (by simp[fheadM,HZ.out,HS.out]<;>omega),HF3.out⟩
      |false=>
       rw[hs] at g3;have HS:=Zh hs;clear hs;go_wp2_with fail
       go_meet
       exact⟨congrArg Value.bool (by rw[fheadM,HM.out,HM2.out,decide_eq_true h8,decide_eq_true h1,HS.out];simp;omega),HF3.out⟩
     ·go_wp2_with fail
      go_meet
      exact⟨congrArg Value.bool (by rw[fheadM,HM.out,HM2.out,decide_eq_true h8,decide_eq_true h1,show(f.ret.length==0)=false by simpa using hz];simp;omega),HF3.out⟩
   ·go_wp2_with fail
    go_meet
    exact⟨congrArg Value.bool (by simp[fheadM,h1]<;>omega),HF2.out⟩
  ·go_wp2_with fail
   go_meet
   exact⟨congrArg Value.bool (by simp[fheadM,h8]<;>omega),HF2.out⟩
 case rest=>
  obtain⟨rfl,hfx⟩:=hcut;have hbx:=Zb HBB.out hfx (non _);have HBX:=Zh hbx;clear hbx;have HFX:=Zh (HFW.out.trans hfx);clear hfx;generalize hh:fheadM f=hd;have HH:=Zh hh;clear hh;cases hd with
  |false=>
   go_wp2_with fail;go_ret;exact⟨ret_bool (by rw[funM,HH.out];rfl),HFX.out⟩
  |true=>
   rw[show(!true)=false from rfl];go_wp2_with fail
   go_loopw [3] (fun i wr=>∃j:Nat,i= .int .i64 j∧j≤f.params.length∧Fr Non wc wr∧∀q,q<j→∀hq:q<f.params.length,parM f.params[q]=true) (fun i _=>f.params.length-(intOf i).toNat)
   case atStart=>exact⟨0,rfl,by omega,Zf _,fun j hj=>by omega⟩
   case round=>
    obtain⟨j,rfl,hj,hfr,hno⟩:=hrel;have HN:=Zh hno;clear hno;have hbr:=Zb HBX.out hfr (non _);have g1:=(Zc hbr).1 1 _ rfl;have HBR:=Zh hbr;clear hbr;by_cases hlt:j<f.params.length
    ·obtain⟨b,o1,rfl,hb,e0,e1,e2,e3⟩:=at_pa (R1.out.fr (HFX.out.trans hfr) (fun _ _=>non _) (fun _ h=>h)) j hlt;have HF:=Zh hfr;clear hfr;go_wp2_with fail;refine(named_any _ _).mono ?_;rintro e w2 ⟨rfl,hf2⟩;have g1':=(Zc (Zb HBR.out hf2 (non _))).1 1 _ rfl;have e1':=hf2.cell' e1 (non _);have e3':=hf2.cell' e3 (non _);clear g1 e0 e1 e2 e3;generalize hm:namedM f.params[j].name=m;have HM:=Zh hm;clear hm;have HF2:=Zh (HF.out.trans hf2);clear hf2;cases m with
     |false=>
      go_wp2_with fail;go_ret;exact⟨ret_bool (by rw[funM,HH.out,all_false_of (p:=parM) j hlt (by simp[parM,HM.out])];rfl),HFX.out.trans HF2.out⟩
     |true=>
      cases hmt:f.params[j].mt with
      |false=>
       rw[hmt] at e3';have HMT:=Zh hmt;clear hmt;go_wp2_with fail;go_roundw
       case rel=>exact⟨j+1,by go_num,by omega,HF2.out,till HN.out fun _=>by simp[parM,HM.out,HMT.out]⟩
       case measure=>simp[intOf];omega
      |true=>
       rw[hmt] at e3';have HMT:=Zh hmt;clear hmt;cases hbf:f.params[j].buf with
       |true=>
        rw[hbf] at e1';have HBF:=Zh hbf;clear hbf;go_wp2_with fail;go_roundw
        case rel=>exact⟨j+1,by go_num,by omega,HF2.out,till HN.out fun _=>by simp[parM,HM.out,HMT.out,HBF.out]⟩
        case measure=>simp[intOf];omega
       |false=>
        rw[hbf] at e1';have HBF:=Zh hbf;clear hbf;go_wp2_with fail;go_ret;exact⟨ret_bool (by rw[funM,HH.out,all_false_of (p:=parM) j hlt (by simp[parM,HMT.out,HBF.out])];rfl),HFX.out.trans HF2.out⟩
    ·have HF:=Zh hfr;clear hfr;go_wp2_with fail;go_ret;exact⟨ret_bool (by rw[funM,HH.out,all_true_of (p:=parM) (l:=f.params) fun q hq=>HN.out q (by omega) hq];rfl),HFX.out.trans HF.out⟩
def Fu.size (f:Fu):Nat:=St.sizes f.body
def Fu.sizes:List Fu→Nat
 |[]=>0
 |f::l=>f.size+Fu.sizes l
theorem fsizes_take (l:List Fu) (j:Nat) (h:j<l.length):Fu.sizes (l.take (j+1))=Fu.sizes (l.take j)+St.sizes l[j].body:=by
 induction l generalizing j with
 |nil=>simp at h
 |cons e l ih=>
  cases j with
  |zero=>simp[Fu.sizes,Fu.size]
  |succ j=>have:=ih j (by simpa using h);simp[Fu.sizes] at this ⊢;omega
theorem fsizes_take_le (l:List Fu) (j:Nat):Fu.sizes (l.take j)≤Fu.sizes l:=by
 induction l generalizing j with
 |nil=>simp[Fu.sizes]
 |cons e l ih=>
  cases j with
  |zero=>simp[Fu.sizes]
  |succ j=>have:=ih j;simp[Fu.sizes];omega
theorem fsize_le:∀(l:List Fu) (k:Nat) (h:k<l.length),St.sizes l[k].body≤Fu.sizes l
 |e::l,0,_=>by simp[Fu.sizes,Fu.size]
 |e::l,k+1,h=>by have:=fsize_le l k (by simpa using h);simp[Fu.sizes];omega
def okF (f:Fu):Bool:=St.oks f.body 1&&funM f
def mayM (l:List Fu):Bool:=l.all okF&&(decide (l.length≤16)&&decide (Fu.sizes l≤400))
theorem mayP_any (l:List Fu) (ok:Nat→Prop) (A:Option Addr) (c:Nat) (w:World) (hr:RdRows ok w 5 A 0 (l.map Fu.d)) (hc:l.length*96≤reach) (hs:Fu.sizes l≤1099511627776):
  Calls Tryz.prog 11 #[.agg #[.slice A l.length c]] w fun e w'=>e= .returned (.bool (mayM l))∧Fr Non w w':=by
 have hlen:l.length≤140737488355328:=by unfold reach at hc;omega
 have HR:=Zh hr;clear hr;go_enter Tryz.func11,Tryz.ntmps11;go_wp2_with fail;obtain⟨W1,HW1⟩:∃W1,W1=w.alloc (.cells #[.slice A l.length c] 24):=⟨_,rfl⟩;rw[←HW1];have hbb:W1.heap[w.heap.size]? =some (.cells #[.slice A l.length c] 24 (0,0)):=by rw[HW1];exact blk_new _ _ _
 have hfw:Fr Non w W1:=by rw[HW1];exact(Zf w).alloc _
 clear HW1;have HBB:=Zh hbb;clear hbb;have HFW:=Zh hfw;clear hfw
 go_loopw [3,4] (fun t i wr=>∃j:Nat,i= .int .i64 j∧t= .int .i64 (Fu.sizes (l.take j))∧j≤l.length∧Fr Non W1 wr∧∀q,q<j→∀hq:q<l.length,okF l[q]=true) (fun _ i _=>l.length-(intOf i).toNat)
 case atStart=>exact⟨0,rfl,by simp[Fu.sizes],by omega,Zf _,fun j hj=>by omega⟩
 case round=>
  obtain⟨j,rfl,rfl,hj,hfr,hno⟩:=hrel;have HN:=Zh hno;clear hno;have hbr:=Zb HBB.out hfr (non _);have g0:=(Zc hbr).1 0 _ rfl;have HBR:=Zh hbr;clear hbr;by_cases hlt:j<l.length
  ·obtain⟨b,o1,A1,c1,A2,c2,A3,c3,rfl,hb,e0,e1,e2,e3,e4,⟨p1,q1,r1⟩,⟨p2,q2,r2⟩,⟨p3,q3,r3⟩⟩:=at_fu (HR.out.fr (HFW.out.trans hfr) (fun _ _=>non _) (fun _ h=>h)) j hlt;have R1:=Zh r1;clear r1;have R2:=Zh r2;clear r2;have R3:=Zh r3;clear r3;have HF:=Zh hfr;clear hfr;have HQ:=Zh (fsize_le l j hlt);have HT:=Zh (fsizes_take l j hlt);have HT2:=Zh (fsizes_take_le l (j+1));go_wp2_with fail;refine(count_any (St.sizes l[j].body) l[j].body 1 ok A2 c2 wr (Nat.le_refl _) (by have:=HQ.out;omega) (by omega) R2.out q2).mono ?_;rintro e w2 ⟨rfl,hf2⟩;have g0':=(Zc (Zb HBR.out hf2 (non _))).1 0 _ rfl;have e0':=hf2.cell' e0 (non _);have e1':=hf2.cell' e1 (non _);have e2':=hf2.cell' e2 (non _);have e3':=hf2.cell' e3 (non _);have e4':=hf2.cell' e4 (non _);clear g0 e0 e1 e2 e3 e4;have HF2:=Zh (HF.out.trans hf2);have HG2:=Zh hf2;clear hf2;have hs1:Fu.sizes (l.take j)+St.sizes l[j].body≤1099511627776:=by have:=HT.out;have:=HT2.out;omega
   cases hob:St.oks l[j].body 1 with
   |false=>
    rw[cnt_false hob];have HB:=Zh hob;clear hob;go_wp2_with fail;go_ret;exact⟨ret_bool (by rw[mayM,all_false_of (p:=okF) j hlt (by simp[okF,HB.out])];rfl),HFW.out.trans HF2.out⟩
   |true=>
    rw[cnt_true hob];have HB:=Zh hob;clear hob;go_wp2_with fail;refine(function_any l[j] ok A1 A2 A3 c1 c2 c3 w2 (R1.out.fr HG2.out (fun _ _=>non _) (fun _ h=>h)) q1 (R3.out.fr HG2.out (fun _ _=>non _) (fun _ h=>h)) q3).mono ?_;rintro e w3 ⟨rfl,hf3⟩;clear g0' e0' e1' e2' e3' e4';generalize hm:funM l[j]=m;have HM:=Zh hm;clear hm;have HF3:=Zh (HF2.out.trans hf3);clear hf3;cases m with
    |false=>
     go_wp2_with fail;go_ret;exact⟨ret_bool (by rw[mayM,all_false_of (p:=okF) j hlt (by simp[okF,HM.out])];rfl),HFW.out.trans HF3.out⟩
    |true=>
     go_wp2_with fail;go_roundw
     case rel=>exact⟨j+1,by go_num,by rw[HT.out];congr 1<;>omega,by omega,HF3.out,till HN.out fun _=>by simp[okF,HM.out,HB.out]⟩
     case measure=>simp[intOf];omega
  ·obtain rfl:j=l.length:=by omega
   have HA:=Zh (all_true_of (p:=okF) (l:=l) fun q hq=>HN.out q (by omega) hq);have HF:=Zh hfr;clear hfr;rw[List.take_length];by_cases h16:l.length≤16
   ·go_wp2_with fail;go_ret;exact⟨ret_bool (by rw[mayM,HA.out];try (rw[Bool.eq_iff_iff];simp<;>omega)),HFW.out.trans HF.out⟩
   ·go_wp2_with fail;go_ret;exact⟨ret_bool (by rw[mayM,HA.out];try (rw[Bool.eq_iff_iff];simp<;>omega)),HFW.out.trans HF.out⟩
theorem row_fr {base:Nat} {e:TypeId} {sz:Nat} {w w':World} {v:Value} {n:Nat} {xs:List Value} {S:Nat→Prop} (h:w.ownsRow base e sz v n xs) (hf:Fr S w w') (hs:∀k,v.ownBlock=some k→¬S k):w'.ownsRow base e sz v n xs:=by
 obtain⟨h1,h2⟩:=h;refine⟨h1,?_⟩;rcases h2 with h2|⟨g,cap,cur,hv,hb,hh,r⟩
 ·exact .inl h2
 ·exact .inr ⟨g,cap,cur,hv,hb,by rw[hf.block g (Array.getElem?_eq_some_iff.1 hh).1 (hs g (by rw[hv];rfl))];exact hh,r⟩
theorem row_slice {base:Nat} {e:TypeId} {sz:Nat} {w:World} {v:Value} {n:Nat} {xs:List Value} (h:w.ownsRow base e sz v n xs):∃A c,v= .slice A n c∧n≤c:=by
 rcases h.2 with⟨rfl,h2⟩|⟨g,cap,cur,hv,hb,hh,h3,_⟩
 ·exact⟨none,0,by rw[h2],by omega⟩
 ·exact⟨_,cap,hv,h3⟩
theorem row_at {base:Nat} {e:TypeId} {sz:Nat} {w:World} {A:Option Addr} {c n:Nat} {xs:List Value} (h:w.ownsRow base e sz (.slice A n c) n xs) (hn:0<n):∃g,A=some ⟨g,0,none⟩∧base≤g∧∀i u,xs[i]? =some u→w.cell? ⟨g,i,none⟩=some u∧w.frozen? ⟨g,i,none⟩=false:=by
 have h':=h;rcases h.2 with⟨_,h2⟩|⟨g,cap,cur,hv,hb,hh,h3,_⟩
 ·omega
 ·cases hv;refine⟨g,rfl,hb,fun i u hu=>⟨?_,(Zc hh).2 i⟩⟩;have:=h'.cells (g:=g) rfl i u hu;simpa[Addr.add_lit] using this
def Pa.zero:Pa:=⟨⟨#[]⟩,false,false,false⟩
def Fu.zero:Fu:=⟨⟨#[]⟩,[],[],false,[]⟩
def Ex.zero:Ex:=.mk 0 0 ⟨#[]⟩ 0 []
def nob:ByteArray:=⟨#[]⟩
def exAt (ex:List Ex) (i:Nat):Ex:=ex.getD i Ex.zero
theorem blk_put9 {w:World} {g:Nat} {a0 a1 a2 a3 a4 a5 a6 a7 a8:Value} {T:TypeId} (h:w.heap[g]? =some (.cells #[a0,a1,a2,a3,a4,a5,a6,a7,a8] T (0,0))) (v0 v1 v2 v3 v4 v5 v6 v7 v8:Value):
  (((((((((w.setCell ⟨g,0,none⟩ v0).setCell ⟨g,1,none⟩ v1).setCell ⟨g,2,none⟩ v2).setCell ⟨g,3,none⟩ v3).setCell ⟨g,4,none⟩ v4).setCell ⟨g,5,none⟩ v5).setCell ⟨g,6,none⟩ v6).setCell ⟨g,7,none⟩ v7).setCell ⟨g,8,none⟩ v8).heap[g]? =some (.cells #[v0,v1,v2,v3,v4,v5,v6,v7,v8] T (0,0)):=by
 have h0:(w.setCell ⟨g,0,none⟩ v0).heap[g]? =some (.cells #[v0,a1,a2,a3,a4,a5,a6,a7,a8] T (0,0)):=blk_set h 0 v0;have h1:((w.setCell ⟨g,0,none⟩ v0).setCell ⟨g,1,none⟩ v1).heap[g]? =some (.cells #[v0,v1,a2,a3,a4,a5,a6,a7,a8] T (0,0)):=blk_set h0 1 v1;have h2:(((w.setCell ⟨g,0,none⟩ v0).setCell ⟨g,1,none⟩ v1).setCell ⟨g,2,none⟩ v2).heap[g]? =some (.cells #[v0,v1,v2,a3,a4,a5,a6,a7,a8] T (0,0)):=blk_set h1 2 v2;have h3:((((w.setCell ⟨g,0,none⟩ v0).setCell ⟨g,1,none⟩ v1).setCell ⟨g,2,none⟩ v2).setCell ⟨g,3,none⟩ v3).heap[g]? =some (.cells #[v0,v1,v2,v3,a4,a5,a6,a7,a8] T (0,0)):=blk_set h2 3 v3;have h4:(((((w.setCell ⟨g,0,none⟩ v0).setCell ⟨g,1,none⟩ v1).setCell ⟨g,2,none⟩ v2).setCell ⟨g,3,none⟩ v3).setCell ⟨g,4,none⟩ v4).heap[g]? =some (.cells #[v0,v1,v2,v3,v4,a5,a6,a7,a8] T (0,0)):=blk_set h3 4 v4;have h5:((((((w.setCell ⟨g,0,none⟩ v0).setCell ⟨g,1,none⟩ v1).setCell ⟨g,2,none⟩ v2).setCell ⟨g,3,none⟩ v3).setCell ⟨g,4,none⟩ v4).setCell ⟨g,5,none⟩ v5).heap[g]? =some (.cells #[v0,v1,v2,v3,v4,v5,a6,a7,a8] T (0,0)):=blk_set h4 5 v5;have h6:(((((((w.setCell ⟨g,0,none⟩ v0).setCell ⟨g,1,none⟩ v1).setCell ⟨g,2,none⟩ v2).setCell ⟨g,3,none⟩ v3).setCell ⟨g,4,none⟩ v4).setCell ⟨g,5,none⟩ v5).setCell ⟨g,6,none⟩ v6).heap[g]? =some (.cells #[v0,v1,v2,v3,v4,v5,v6,a7,a8] T (0,0)):=blk_set h5 6 v6;have h7:((((((((w.setCell ⟨g,0,none⟩ v0).setCell ⟨g,1,none⟩ v1).setCell ⟨g,2,none⟩ v2).setCell ⟨g,3,none⟩ v3).setCell ⟨g,4,none⟩ v4).setCell ⟨g,5,none⟩ v5).setCell ⟨g,6,none⟩ v6).setCell ⟨g,7,none⟩ v7).heap[g]? =some (.cells #[v0,v1,v2,v3,v4,v5,v6,v7,a8] T (0,0)):=blk_set h6 7 v7;have h8:(((((((((w.setCell ⟨g,0,none⟩ v0).setCell ⟨g,1,none⟩ v1).setCell ⟨g,2,none⟩ v2).setCell ⟨g,3,none⟩ v3).setCell ⟨g,4,none⟩ v4).setCell ⟨g,5,none⟩ v5).setCell ⟨g,6,none⟩ v6).setCell ⟨g,7,none⟩ v7).setCell ⟨g,8,none⟩ v8).heap[g]? =some (.cells #[v0,v1,v2,v3,v4,v5,v6,v7,v8] T (0,0)):=blk_set h7 8 v8;exact h8
theorem fr_put9 {g:Nat} {w:World} {S:Nat→Prop} (hs:S g) (v0 v1 v2 v3 v4 v5 v6 v7 v8:Value):
  Fr S w (((((((((w.setCell ⟨g,0,none⟩ v0).setCell ⟨g,1,none⟩ v1).setCell ⟨g,2,none⟩ v2).setCell ⟨g,3,none⟩ v3).setCell ⟨g,4,none⟩ v4).setCell ⟨g,5,none⟩ v5).setCell ⟨g,6,none⟩ v6).setCell ⟨g,7,none⟩ v7).setCell ⟨g,8,none⟩ v8):=
 (((((((((Fr.refl S w).setCell _ _ (.inl hs)).setCell _ _ (.inl hs)).setCell _ _ (.inl hs)).setCell _ _ (.inl hs)).setCell _ _ (.inl hs)).setCell _ _ (.inl hs)).setCell _ _ (.inl hs)).setCell _ _ (.inl hs)).setCell _ _ (.inl hs)
end Go.Proofs.YtgiomfnpkkdknaaGreatDoor
