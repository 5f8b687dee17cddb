import PyProof.Rows.All
import PyProof.CollectIter
import PyProof.NeKinds
import PyProof.ZipIter
import PyProof.StrCalls2
import PyProof.Rows.SumAny
import Open.FastT9
import KE.KSliceW
import KE.KSuper
import Wide.FinOn
import OpenK.AllK
import Wide.All
import Lean
import PySem.Challenge.RW_nz0036_01
set_option Elab.async false
set_option maxRecDepth 100000
set_option bootstrap.genMatcherCode false
set_option genSizeOf false
set_option genInjectivity false
set_option linter.all false
set_option tactic.hygienic false
set_option maxHeartbeats 4000000
namespace Mine.Internal
set_option compiler.extract_closed false
open Lean in
local macro_rules (kind:=Lean.Parser.Command.declaration)|s=>if s.getPos?.isNone then Macro.throwUnsupported else let d:=s[1];pure ((if d.isOfKind ``Lean.Parser.Command.definition&&(d[3][1].isOfKind ``Lean.Parser.Term.byTactic||d[3][1].isOfKind `«term∅») then s.setArg 1 (mkNode ``Lean.Parser.Command.theorem #[mkAtom "theorem",d[1],mkNode ``Lean.Parser.Command.declSig #[d[2][0],d[2][1][0]],d[3]]) else if s[0][4].isNone&&(d.isOfKind ``Lean.Parser.Command.definition||d.isOfKind ``Lean.Parser.Command.«abbrev») then s.modifyArg 0 (·.setArg 4 (mkNullNode #[mkNode ``Lean.Parser.Command.noncomputable #[mkAtom "noncomputable"]])) else s).rewriteBottomUp (·.setInfo .none))
local macro_rules |`(tactic|ext $e:ident)=>`(tactic|first|(injection $e:ident with $e:ident;subst $e:ident)|injection $e:ident|cases $e:ident)
open Lean in
local macro_rules (kind:=Lean.Parser.Tactic.show)|s=>pure (mkNode ``Lean.Parser.Tactic.refine #[mkAtom "refine",s[1]])
local macro_rules |`(∅)=>`(by first|kernel_rfl|decide)
theorem trv:True:=⟨⟩
section
abbrev Ei:= @List.length_map
abbrev uG:= @List.length_range
abbrev Vm:= @List.getElem?_map
abbrev uH:= @List.getElem?_eq_none
abbrev DF:= @Nat.le_of_ble_eq_true
abbrev pd:= @Nat.lt_of_lt_of_le
abbrev AAd:= @Nat.le_add_right
abbrev y9:= @Nat.sub_lt_left_of_lt_add
abbrev Sg:= @List.mem_cons_self
abbrev Zo:= @List.mem_cons_of_mem
abbrev uI:= @List.take_append_drop
abbrev pe:= @Bool.and_assoc
abbrev mu:= @Bool.true_and
abbrev jL:= @Bool.and_true
abbrev DQ:= @Bool.and_eq_true_iff
abbrev pi:= @List.filter_eq_nil_iff
abbrev mw:= @Bool.false_ne_true
abbrev Gc:= @PySem.W.look_both
abbrev pj:= @List.append_assoc
abbrev M1:= @Option.some.inj
abbrev uf:= @Nat.add_sub_cancel'
abbrev Fy:= @decide_eq_true
abbrev AAL:= @of_decide_eq_true
abbrev mx:= @List.getElem?_append_left
abbrev FA:= @List.getElem?_eq_getElem
abbrev ug:= @beq_eq_false_iff_ne
abbrev uJ:= @List.mem_of_getElem?
abbrev uh:= @List.getElem?_append_right
abbrev jF:= @Nat.le_of_not_lt
abbrev Oh:= @PySem.Heap.lt_size
abbrev Zq:= @Nat.lt_irrefl
abbrev JQ:= @PySem.Heap.get?_push_of_some
abbrev An:= @PySem.wpAny_bind
abbrev Fz:= @beq_iff_eq
abbrev uK:= @beq_self_eq_true
abbrev Ej:= @Array.length_toList
abbrev Vn:= @Array.getElem?_toList
abbrev J6:= @PySem.Heap.get?_push_size
abbrev LJ:= @Nat.eq_of_beq_eq_true
abbrev Zf:= @List.map_append
abbrev KY:= @PySem.sizeLine_eq
abbrev ui:= @Array.toList_append
abbrev EX:= @Nat.le_trans
abbrev pk:= @Bool.and_false
abbrev Zr:= @decide_eq_false
abbrev Zg:= @List.map_cons
abbrev Sa:= @List.lookup_cons
abbrev uj:= @List.getLast?_eq_some_getLast
abbrev zA:= @List.getLastD_eq_getLast?
abbrev NR:= @PySem.wpAny_mono
abbrev B9:= @PySem.wpAny_pure
abbrev NS:= @List.getD_eq_getElem?_getD
abbrev uk:= @PySem.Heap.get?_update_self
abbrev pn:= @PySem.Heap.SameBut.update
abbrev my:= @Nat.succ_le_succ
abbrev QP:= @List.mem_cons
abbrev Zs:= @List.mem_map
abbrev QJ:= @Nat.le_refl
abbrev QK:= @PySem.wpAny_holding
abbrev pq:= @List.getElem?_eq_none_iff
abbrev jM:= @PySem.wpAny_newObj_type
abbrev Zh:= @List.length_cons
abbrev Sh:= @PySem.wpAny_standAt
abbrev mz:= @List.forIn_nil
abbrev nA:= @List.forIn_cons
abbrev jN:= @Nat.lt_of_le_of_lt
abbrev uL:= @Nat.add_le_add_left
abbrev Zt:= @Nat.mul_le_mul_left
abbrev JT:= @List.length_append
abbrev pu:= @PySem.Heap.size_push
abbrev XW:= @List.append_nil
abbrev QL:= @List.all_eq_true
abbrev QQ:= @Nat.zero_le
abbrev uM:= @PySem.wpAny_call_entry
abbrev Vo:= @List.mem_singleton
abbrev Zu:= @List.getElem_mem
abbrev jO:= @List.take_of_length_le
abbrev NT:= @of_decide_eq_false
abbrev uN:= @List.length_singleton
abbrev Oi:= @decide_eq_true_iff
abbrev uO:= @List.length_dropLast
abbrev uP:= @List.filter_congr
abbrev nB:= @List.filter_cons
abbrev jG:= @PySem.wpAny_field
abbrev XX:= @Option.map_eq_some_iff
abbrev uQ:= @List.take_add_one
abbrev AAM:= @Nat.sub_succ_lt_self
abbrev nC:= @List.getElem?_eq_some_iff
abbrev NU:= @List.isEmpty_iff
abbrev LK:= @List.contains_iff_mem
abbrev nD:= @List.length_pos_iff
abbrev ul:= @List.mem_iff_getElem?
abbrev um:= @Option.isSome_iff_exists
abbrev uR:= @decide_eq_decide
theorem QR {a b c:Prop}{G:Prop}(h:a/\b/\c)(k:a->b->c->G):G:=k h.1 h.2.1 h.2.2
theorem M2 {a b c d:Prop}{G:Prop}(h:a/\b/\c/\d)(k:a->b->c->d->G):G:=k h.1 h.2.1 h.2.2.1 h.2.2.2
theorem uo {a b c d f g:Prop}{G:Prop}(h:a/\b/\c/\d/\f/\g)(k:a->b->c->d->f->g->G):G:=k h.1 h.2.1 h.2.2.1 h.2.2.2.1 h.2.2.2.2.1 h.2.2.2.2.2
theorem AH {a:Sort _}{b c:a->Prop}{G:Prop}(h:∃a0,b a0/\c a0)(k:∀a0,b a0->c a0->G):G:=h.elim λa0 h0=>k a0 h0.1 h0.2
theorem Ek {a:Sort _}{b c d:a->Prop}{G:Prop}(h:∃a0,b a0/\c a0/\d a0)(k:∀a0,b a0->c a0->d a0->G):G:=h.elim λa0 h0=>k a0 h0.1 h0.2.1 h0.2.2
theorem jP {a:Sort _}{b:Sort _}{c:a->b->Prop}{G:Prop}(h:∃a0 a1,c a0 a1)(k:∀a0 a1,c a0 a1->G):G:=h.elim λa0 h0=>h0.elim λa1 h1=>k a0 a1 h1
theorem Hi {a:Sort _}{b:Sort _}{c d:a->b->Prop}{G:Prop}(h:∃a0 a1,c a0 a1/\d a0 a1)(k:∀a0 a1,c a0 a1->d a0 a1->G):G:=h.elim λa0 h0=>h0.elim λa1 h1=>k a0 a1 h1.1 h1.2
theorem Bj {a:Sort _}{b:Sort _}{c d f:a->b->Prop}{G:Prop}(h:∃a0 a1,c a0 a1/\d a0 a1/\f a0 a1)(k:∀a0 a1,c a0 a1->d a0 a1->f a0 a1->G):G:=h.elim λa0 h0=>h0.elim λa1 h1=>k a0 a1 h1.1 h1.2.1 h1.2.2
theorem pv {a:Sort _}{b:Sort _}{c d f g:a->b->Prop}{G:Prop}(h:∃a0 a1,c a0 a1/\d a0 a1/\f a0 a1/\g a0 a1)(k:∀a0 a1,c a0 a1->d a0 a1->f a0 a1->g a0 a1->G):G:=h.elim λa0 h0=>h0.elim λa1 h1=>k a0 a1 h1.1 h1.2.1 h1.2.2.1 h1.2.2.2
theorem XY {b:Sort _}{c:Sort _}{d:Sort _}{f:b->c->d->Prop}{G:Prop}(h:∃a0 a1 a,f a0 a1 a)(k:∀a0 a1 a,f a0 a1 a->G):G:=h.elim λa0 h0=>h0.elim λa1 h1=>h1.elim λa g=>k a0 a1 a g
theorem uq {b:Sort _}{c:Sort _}{d:Sort _}{f g:b->c->d->Prop}{G:Prop}(h:∃a0 a1 a,f a0 a1 a/\g a0 a1 a)(k:∀a0 a1 a,f a0 a1 a->g a0 a1 a->G):G:=h.elim λa0 h0=>h0.elim λa1 h1=>h1.elim λa i=>k a0 a1 a i.1 i.2
theorem zU {b:Sort _}{c:Sort _}{d:Sort _}{g i j:b->c->d->Prop}{G:Prop}(h:∃a0 a1 a,g a0 a1 a/\i a0 a1 a/\j a0 a1 a)(k:∀a0 a1 a,g a0 a1 a->i a0 a1 a->j a0 a1 a->G):G:=h.elim λa0 h0=>h0.elim λa1 h1=>h1.elim λa f=>k a0 a1 a f.1 f.2.1 f.2.2
theorem Si {c:Sort _}{d:Sort _}{f:Sort _}{g i j l:c->d->f->Prop}{G:Prop}(h:∃a0 a1 a,g a0 a1 a/\i a0 a1 a/\j a0 a1 a/\l a0 a1 a)(k:∀a0 a1 a,g a0 a1 a->i a0 a1 a->j a0 a1 a->l a0 a1 a->G):G:=h.elim λa0 h0=>h0.elim λa1 h1=>h1.elim λa b=>k a0 a1 a b.1 b.2.1 b.2.2.1 b.2.2.2
theorem px {c:Sort _}{d:Sort _}{f:Sort _}{g i j l m n:c->d->f->Prop}{G:Prop}(h:∃a0 a1 a,g a0 a1 a/\i a0 a1 a/\j a0 a1 a/\l a0 a1 a/\m a0 a1 a/\n a0 a1 a)(k:∀a0 a1 a,g a0 a1 a->i a0 a1 a->j a0 a1 a->l a0 a1 a->m a0 a1 a->n a0 a1 a->G):G:=h.elim λa0 h0=>h0.elim λa1 h1=>h1.elim λa b=>k a0 a1 a b.1 b.2.1 b.2.2.1 b.2.2.2.1 b.2.2.2.2.1 b.2.2.2.2.2
theorem ur {c:Sort _}{d:Sort _}{f:Sort _}{g:Sort _}{i j l:c->d->f->g->Prop}{G:Prop}(h:∃a0 a1 a b,i a0 a1 a b/\j a0 a1 a b/\l a0 a1 a b)(k:∀a0 a1 a b,i a0 a1 a b->j a0 a1 a b->l a0 a1 a b->G):G:=h.elim λa0 h0=>h0.elim λa1 h1=>h1.elim λa m=>m.elim λb h3=>k a0 a1 a b h3.1 h3.2.1 h3.2.2
theorem py {c:Sort _}{d:Sort _}{f:Sort _}{g:Sort _}{i j l m:c->d->f->g->Prop}{G:Prop}(h:∃a0 a1 a b,i a0 a1 a b/\j a0 a1 a b/\l a0 a1 a b/\m a0 a1 a b)(k:∀a0 a1 a b,i a0 a1 a b->j a0 a1 a b->l a0 a1 a b->m a0 a1 a b->G):G:=h.elim λa0 h0=>h0.elim λa1 h1=>h1.elim λa n=>n.elim λb h3=>k a0 a1 a b h3.1 h3.2.1 h3.2.2.1 h3.2.2.2
theorem Zv {G:Prop}(h:∀P:Prop,(G->P)->P):G:=h G id
theorem aL {a b:Bool}(h:(a&&b)=true):a=true:=(DQ.mp h).1
theorem aR {a b:Bool}(h:(a&&b)=true):b=true:=(DQ.mp h).2
section
open PySem PySem.W
def heapOf (g:Nat->Option Obj)(n:Nat)(life:Life):Heap:=⟨((List.range n).map λa=>(g a).getD default).toArray,life⟩
def J7 g n life:(heapOf g n life).objs.size=n:=by
 unfold heapOf;rw[List.size_toArray,Ei,uG]
def EY g n life a:(heapOf g n life).objs[a]?=if a<n then some ((g a).getD default) else none:=by
 unfold heapOf;rw[List.getElem?_toArray,Vm]
 by_cases h:a<n
 · rw[List.getElem?_range h,if_pos h];rfl
 · rw[uH (by rw[uG];lia),if_neg h];rfl
def F0 {g j}{n}{life}(h:∀a,a<n->g a=j a):heapOf g n life=heapOf j n life:=by
 unfold heapOf;have:(List.range n).map (λa=>(g a).getD default)=(List.range n).map (λa=>(j a).getD default):=by
  apply List.map_congr_left;intro a b;rw[h a (List.mem_range.mp b)]
 rw[this]
def Em {g}{n}{life}{a}{o}(h:a<n)(e:g a=some o):(heapOf g n life).get? a=alive o:=by
 unfold Heap.get?;rw[EY,if_pos h,e];change (match some o with|some ⟨_,_,.freed,_⟩=>none|o=>o)=alive o;obtain⟨c,d,b,f⟩:=o;cases b<;>rfl
def M3 {g}{n}{life}{a}{f}{o}(e:g a=some o):
 (heapOf g n life).update a f=heapOf (λb=>if b=a then some (f o) else g b) n life:=by
 have:((heapOf g n life).objs.modify a f)=(heapOf (λb=>if b=a then some (f o) else g b) n life).objs:=by
  apply Array.ext_getElem?;intro i;rw[Array.getElem?_modify,EY,EY]
  by_cases h:i<n
  · by_cases q:i=a
    · subst q;simp[h,e]
    · simp[h,q,Ne.symm q]
  · by_cases q:i=a
    · subst q;simp[h]
    · simp[h]
 change Heap.mk _ _=Heap.mk _ _;show congrArg (Heap.mk · life) this
def QT {g}{n}{life}{o}:
 (heapOf g n life).push o=heapOf (λb=>if b=n then some o else g b) (n+1) life:=by
 have:(heapOf g n life).objs.push o=(heapOf (λb=>if b=n then some o else g b) (n+1) life).objs:=by
  apply Array.ext_getElem?;intro i;rw[Array.getElem?_push,EY,EY,J7]
  by_cases e:i=n
  · subst e;simp
  · by_cases h:i<n
    · have:i<n+1:=by lia
      simp[h,e,this]
    · have:¬i<n+1:=by lia
      simp[h,e,this]
 change Heap.mk _ _=Heap.mk _ _;show congrArg (Heap.mk · life) this
def Oj:List Obj->Nat->Option Obj|[],_=>none|o::l,i=>match Nat.beq i 0 with|true=>some o|false=>Oj l (i-1)
def Dn o l i:Oj (o::l) i=if i=0 then some o else Oj l (i-1):=by
 change (match Nat.beq i 0 with|true=>some o|false=>Oj l (i-1))=_;rw[BT.beq_eq]
 by_cases h:i=0<;>simp[h]
def XZ:List Obj->Nat->(Obj->Obj)->List Obj|[],_,_=>[]|o::l,i,f=>match Nat.beq i 0 with|true=>f o::l|false=>o::XZ l (i-1) f
def En:List (Addr×Obj)->Addr->Option Obj|[],_=>none|p::l,a=>match Nat.beq p.1 a with|true=>some p.2|false=>En l a
def Cx p l a:En (p::l) a=if p.1=a then some p.2 else En l a:=by
 change (match Nat.beq p.1 a with|true=>some p.2|false=>En l a)=_;rw[BT.beq_eq]
 by_cases h:p.1=a<;>simp[h]
def Xa:List (Addr×Obj)->Addr->(Obj->Obj)->List (Addr×Obj)|[],_,_=>[]|p::l,a,f=>match Nat.beq p.1 a with|true=>(p.1,f p.2)::l|false=>p::Xa l a f
structure HS where
 al:List Obj
 up:List (Addr×Obj)
 m:Nat
 gens:Array GenState
 drawn:Drawn
 toks:Nat
 os:OsState
def lk (old:Nat->Option Obj)(n₁:Nat)(al:List Obj)(up:List (Addr×Obj))(m:Nat)(a:Addr):Option Obj:=
 match Nat.ble n₁ a with
 |true=>match Nat.blt (a-n₁) m with|true=>Oj al (m-1-(a-n₁))|false=>none
 |false=>match En up a with|some o=>some o|none=>old a
def HS.abs (old:Nat->Option Obj)(n₁:Nat)(life:Life)(s:HS):Shared:=⟨heapOf (lk old n₁ s.al s.up s.m) (n₁+s.m) life,s.gens,s.drawn,s.toks,s.os⟩
def Xb o l i f:XZ (o::l) i f=if i=0 then f o::l else o::XZ l (i-1) f:=by
 change (match Nat.beq i 0 with|true=>f o::l|false=>o::XZ l (i-1) f)=_;rw[BT.beq_eq]
 by_cases h:i=0<;>simp[h]
def Xc p l a f:Xa (p::l) a f=if p.1=a then (p.1,f p.2)::l else p::Xa l a f:=by
 change (match Nat.beq p.1 a with|true=>(p.1,f p.2)::l|false=>p::Xa l a f)=_;rw[BT.beq_eq]
 by_cases h:p.1=a<;>simp[h]
theorem QU f:∀(l:List Obj) (i j:Nat),Oj (XZ l i f) j=if j=i then (Oj l i).map f else Oj l j
 |[],i,j=>(ite_self _).symm
 |o::l,i,j=>by
  rw[Xb]
  by_cases hi:i=0
  · rw[if_pos hi,Dn,Dn,Dn,if_pos hi,hi]
    by_cases u:j=0
    · rw[if_pos u,if_pos u];rfl
    · rw[if_neg u,if_neg u,if_neg u]
  · rw[if_neg hi,Dn,Dn,Dn,if_neg hi]
    by_cases u:j=0
    · rw[if_pos u,if_neg λe=>hi (e.symm.trans u),if_pos u]
    · rw[if_neg u,if_neg u,QU f l]
      by_cases e:j=i
      · rw[if_pos e,if_pos (by rw[e])]
      · rw[if_neg e,if_neg λq=>e ((Nat.succ_pred_eq_of_ne_zero u).symm.trans ((congrArg (· +1) q).trans (Nat.succ_pred_eq_of_ne_zero hi)))]
theorem NV f:∀(l:List (Addr×Obj)) (a b:Nat),En (Xa l a f) b=if b=a then (En l a).map f else En l b
 |[],a,b=>(ite_self _).symm
 |p::l,a,b=>by
  rw[Xc]
  by_cases j:p.1=a
  · rw[if_pos j,Cx,Cx,Cx,if_pos j]
    by_cases hb:p.1=b
    · rw[if_pos hb,if_pos (hb.symm.trans j)];rfl
    · rw[if_neg hb,if_neg λq=>hb (j.trans q.symm),if_neg hb]
  · rw[if_neg j,Cx,Cx,Cx,if_neg j]
    by_cases hb:p.1=b
    · rw[if_pos hb,if_neg λq=>j (hb.trans q),if_pos hb]
    · rw[if_neg hb,if_neg hb];show NV f l a b
def pz (old:Nat->Option Obj)(n₁:Nat)(al:List Obj)(up:List (Addr×Obj))(m:Nat)(a:Addr)(f:Obj->Obj):Option (Obj×List Obj×List (Addr×Obj)):=match Nat.ble n₁ a with
 |true=>match Nat.blt (a-n₁) m with|true=>(Oj al (m-1-(a-n₁))).map λo=>(o,XZ al (m-1-(a-n₁)) f,up)|false=>none
 |false=>match En up a with|some o=>some (o,al,Xa up a f)|none=>(old a).map λo=>(o,al,(a,f o)::up)
def Zw (old:Nat->Option Obj)(n₁:Nat)(stp:Shared->Thread->Step):HS->Thread->Option (HS×Thread)|⟨al,up,m,gens,drawn,toks,os⟩,⟨j,code,pos,stack⟩=>match j with|.load a _ k=>(lk old n₁ al up m a).bind λo=>(alive o).bind λb=>some (⟨al,up,m,gens,drawn,toks,os⟩,⟨k b,code,pos,stack⟩)|.update a _ f k=>(pz old n₁ al up m a f).bind λr=>(alive r.1).bind λZ=>some (⟨r.2.1,r.2.2,m,gens,drawn,toks,os⟩,⟨k (),code,pos,stack⟩)|.alloc o k=>some (⟨o::al,up,m+1,gens,drawn,toks,os⟩,⟨k (n₁+m),code,pos,stack⟩)|.loadIfAlive a k=>(lk old n₁ al up m a).bind λo=>some (⟨al,up,m,gens,drawn,toks,os⟩,⟨k (alive o),code,pos,stack⟩)|c=>match stp ⟨{},gens,drawn,toks,os⟩ ⟨c,code,pos,stack⟩ with|.go s' u=>some (⟨al,up,m,s'.gens,s'.drawn,s'.toks,s'.os⟩,u)|.halt _ _=>none
theorem Gs {a b}:(Nat.ble a b=true<->a<=b):=⟨DF,Nat.ble_eq_true_of_le⟩
theorem Gu {a b}:(Nat.blt a b=true<->a<b):=⟨DF,Nat.ble_eq_true_of_le⟩
def Zx {old}{n₁}{al}{up}{m}{a}{o}(e:lk old n₁ al up m a=some o):a<n₁+m:=by
 unfold lk at e;cases h:Nat.ble n₁ a with
 |true=>
  rw[h] at e;cases b:Nat.blt (a-n₁) m with
  |true=>
   have q1:a-n₁<m:=Gu.mp b;have c:n₁<=a:=Gs.mp h;show(Nat.sub_lt_iff_lt_add' c).mp q1
  |false=>rw[b] at e;ext e
 |false=>
  have q:¬n₁<=a:=λq=>by rw[Gs.mpr q] at h;ext h
  show pd (Nat.lt_of_not_le q) (AAd _ _)
section
variable {old:Nat->Option Obj}{n₁:Nat}{den:Code->Sem Fin}{p:Program}{w:World}{life:Life}
theorem QV {al}{up}{m}{gens}{drawn}{toks}{os}{j}{code}{pos}{stack}{r}
 (h1:∀a q k,j≠ .load a q k) (c:∀a q f k,j≠ .update a q f k) (h3:∀o k,j≠ .alloc o k) (d:∀a k,j≠ .loadIfAlive a k)
 (h:(match step den p w ⟨{},gens,drawn,toks,os⟩ ⟨j,code,pos,stack⟩ with
 |.go s' u=>some ((⟨al,up,m,s'.gens,s'.drawn,s'.toks,s'.os⟩:HS),u)
 |.halt _ _=>none)=some r):
    step den p w (HS.abs old n₁ life ⟨al,up,m,gens,drawn,toks,os⟩) ⟨j,code,pos,stack⟩=.go (r.1.abs old n₁ life) r.2:=by
  cases q:step den p w ⟨{},gens,drawn,toks,os⟩ ⟨j,code,pos,stack⟩ with
  |halt o s=>rw[q] at h;ext h
  |go s₀ b=>rw[q] at h;ext h;show step_heap h1 c h3 d q
theorem ut {α β:Type}{o:Option α}{f:α->Option β}{y}(e:o.bind f=some y):∃x,o=some x/\f x=some y:=Option.bind_eq_some_iff.mp e
theorem oMp {α β:Type}{o:Option α}{f:α->β}{y}(e:o.map f=some y):∃x,o=some x/\f x=y:=XX.mp e
theorem p7 {n₁ m a b:Nat}(h1:n₁<=b)(c:n₁<=a)(h3:b<n₁+m)(d:a-n₁<m)(q:m-1-(b-n₁)=m-1-(a-n₁)):b=a:=
 have e:b-n₁=a-n₁:=(Nat.sub_sub_self (Nat.le_sub_one_of_lt (y9 h1 h3))).symm.trans ((congrArg (m-1-·) q).trans (Nat.sub_sub_self (Nat.le_sub_one_of_lt d)))
 (Nat.sub_add_cancel h1).symm.trans ((congrArg (· +n₁) e).trans (Nat.sub_add_cancel c))
def Xd {al:List Obj}{up:List (Addr×Obj)}{m:Nat}{a:Addr}{f}{r}(h:pz old n₁ al up m a f=some r):
 lk old n₁ al up m a=some r.1/\∀b,b<n₁+m->lk old n₁ r.2.1 r.2.2 m b=if b=a then some (f r.1) else lk old n₁ al up m b:=by
 unfold pz at h;unfold lk;cases hb:Nat.ble n₁ a with
 |true=>
  rw[hb] at h;cases hm:Nat.blt (a-n₁) m with
  |false=>rw[hm] at h;ext h
  |true=>
   rw[hm] at h;obtain⟨o,g,h⟩:=oMp h;subst h;show⟨g,λb d=>?_⟩;cases c:Nat.ble n₁ b with
   |true=>
    have i:=Gs.mp c;rw[show Nat.blt (b-n₁) m=true from Gu.mpr (y9 i d)];show(QU ..).trans ?_
    by_cases e:b=a
    · rw[if_pos e,if_pos (by rw[e]),g];rfl
    · rw[if_neg e,if_neg λq=>e (p7 i (Gs.mp hb) d (Gu.mp hm) q)]
   |false=>show(if_neg λe=>by rw[e,hb] at c;ext c).symm
 |false=>
  rw[hb] at h;cases g:En up a with
  |some o=>
   rw[g] at h;ext h;show⟨rfl,λb d=>?_⟩;cases c:Nat.ble n₁ b with
   |true=>show(if_neg λe=>by rw[e,hb] at c;ext c).symm
   |false=>
    dsimp only;rw[NV]
    by_cases e:b=a
    · rw[if_pos e,if_pos e,g];rfl
    · rw[if_neg e,if_neg e]
  |none=>
   rw[g] at h;obtain⟨o,g2,h⟩:=oMp h;subst h;show⟨g2,λb d=>?_⟩;cases c:Nat.ble n₁ b with
   |true=>show(if_neg λe=>by rw[e,hb] at c;ext c).symm
   |false=>
    dsimp only;rw[Cx]
    by_cases e:b=a
    · rw[if_pos e,if_pos e.symm]
    · rw[if_neg e,if_neg (Ne.symm e)]
def Sj {s}{t}{r}(h:Zw old n₁ (step den p w) s t=some r):step den p w (s.abs old n₁ life) t=.go (r.1.abs old n₁ life) r.2:=by
 obtain⟨al,up,m,gens,drawn,toks,os⟩:=s;obtain⟨l,code,pos,stack⟩:=t;cases l with
 |load a q k=>
  obtain⟨o,g,h⟩:=ut h;obtain⟨u,e,h⟩:=ut h;ext h;change step den p w ⟨heapOf (lk old n₁ al up m) (n₁+m) life,gens,drawn,toks,os⟩ ⟨.load a q k,code,pos,stack⟩=_;simp only[step,Em (Zx g) g,e];rfl
 |update a q f k=>
  obtain⟨x,e1,h⟩:=ut h;obtain⟨u,v,h⟩:=ut h;ext h;have c:=Xd e1;change step den p w ⟨heapOf (lk old n₁ al up m) (n₁+m) life,gens,drawn,toks,os⟩ ⟨.update a q f k,code,pos,stack⟩=.go ⟨heapOf (lk old n₁ x.2.1 x.2.2 m) (n₁+m) life,gens,drawn,toks,os⟩ _;rw[(F0 c.2).trans (M3 c.1).symm];simp only[step,Em (Zx c.1) c.1,v,Option.isSome_some,if_true]
 |alloc o k=>
  ext h;change step den p w ⟨heapOf (lk old n₁ al up m) (n₁+m) life,gens,drawn,toks,os⟩ ⟨.alloc o k,code,pos,stack⟩=.go ⟨heapOf (lk old n₁ (o::al) up (m+1)) (n₁+(m+1)) life,gens,drawn,toks,os⟩ _;have e:heapOf (lk old n₁ (o::al) up (m+1)) (n₁+(m+1)) life=(heapOf (lk old n₁ al up m) (n₁+m) life).push o:=by
   rw[QT,<-Nat.add_assoc];apply F0;intro b i;unfold lk;cases d:Nat.ble n₁ b with
   |true=>
    have j:=Gs.mp d;have n:Nat.blt (b-n₁) (m+1):=Gu.mpr (y9 j i);simp only[n,Dn]
    by_cases e:b=n₁+m
    · subst e;simp
    · have hl:=y9 j (Nat.lt_of_le_of_ne (Nat.le_of_lt_succ i) e);have h1:¬(m+1-1-(b-n₁)=0):=λq=>Nat.not_le_of_lt hl (Nat.sub_eq_zero_iff_le.mp q);have h3:m+1-1-(b-n₁)-1=m-1-(b-n₁):=Nat.sub_right_comm ..;rw[if_neg h1,if_neg e,Gu.mpr hl,h3]
   |false=>
    have:¬b=n₁+m:=λe=>by rw[Gs.mpr (e▸AAd n₁ m)] at d;ext d
    simp[this]
  rw[e];simp only[step,J7]
 |loadIfAlive a k=>
  obtain⟨o,g,h⟩:=ut h;ext h;change step den p w ⟨heapOf (lk old n₁ al up m) (n₁+m) life,gens,drawn,toks,os⟩ ⟨.loadIfAlive a k,code,pos,stack⟩=_;simp only[step,Em (Zx g) g];rfl
 |_=>show QV (by intros;intro e;ext e) (by intros;intro e;ext e) (by intros;intro e;ext e) (by intros;intro e;ext e) h
end
def AAR (old:Nat->Option Obj)(n₁:Nat)(stp:Shared->Thread->Step)(ok:Thread->Bool)(b:Nat):Nat->HS->Thread->Option (Flow×HS×Code×Pos)|0,_,_=>none|n+1,s,t=>match endAt b t with|some f=>some (f,s,t.code,t.pos)|none=>match ok t with|false=>none|true=>match Zw old n₁ stp s t with|some (s',j)=>AAR old n₁ stp ok b n s' j|none=>none
theorem LN {old}{n₁}{C}{p}{w}{j}{u}{b}{life}:
 ∀ {n:Nat} {s s':HS} {t:Thread} {f:Flow} {c:Code} {q:Pos},AAR old n₁ (step (denote C) p w) (stepOk j u) b n s t=some (f,s',c,q)->segRun C p w j u b n (s.abs old n₁ life) t=some (f,s'.abs old n₁ life,c,q)
 |0,_,_,_,_,_,_,h=>by ext h
 |n+1,s,s',t,f,c,q,h=>by
  unfold AAR at h;unfold segRun;cases he:endAt b t with
  |some x=>rw[he] at h;cases h;rfl
  |none=>
   rw[he] at h;cases hk:stepOk j u t with
   |false=>rw[hk] at h;ext h
   |true=>
    rw[hk] at h;cases H:Zw old n₁ (step (denote C) p w) s t with
    |none=>rw[H] at h;ext h
    |some r=>obtain⟨J,N⟩:=r;rw[H] at h;rw[Sj (life:=life) H];show LN h
end
section
open PySem PySem.W PyProof.Rows
abbrev pw:=PySem.Challenge.pw_nz0036_01
def st (i:Nat):=((pw.main.body.drop i).head?).getD (.Pass ⟨0,0,0,0⟩)
def sm (i j:Nat):Stmt:=match st i with|.ClassDef _ _ _ b .. =>((b.drop j).head?).getD (.Pass ⟨0,0,0,0⟩)|s=>s
def jQ (s:Stmt)(qual:Str)(a code:Value)(clo:List (Str×Addr))(b:Value):FuncData:=match s with|.FunctionDef name args body _ _ _ scope _ _ _=>{name,qualname:=qual,params:=args,body:=.stmts body,scope,globals:=mainGlobals,closure:=clo,defaults:=.none,kwdefaults:=.none,doc:=.none,pyModule:=a,annotations:=none,code,closureTuple:=b,builtins:=builtinsNs}|_=>default
section
variable (P:Params)
def en (x:Str)(t:Nat)(v:Value):DictEntry:=⟨PyData.keyHash P x,.str x t,v⟩
def nG:List Value:=[.type "object"]
def zV:List Value:=.ref 305::nG
def M4 (q:Str)(a:Addr)(r s:List Value)(h:Option Value)(t:Nat):Obj:=⟨.type "type",none,.cls ⟨q,r.take 1,.ref a::r,a-1,q,true,[],s,false,none,false⟩,#[h,none,some (.str q t),some (.str q (t+8)),some (.builtin "object.__new__"),some (.bool true)]⟩
def Xe (l:List DictEntry)(n:Nat):Obj:=⟨.type "dict",none,.dict ⟨l⟩ n,#[]⟩
def Zy (l:List Value):Obj:=⟨.none,none,.fields ⟨l⟩,#[]⟩
def jH (t:Nat)(m:Value)(i:Int)(l:List DictEntry)(n:Nat):=Xe (en P "__module__" t m::en P "__firstlineno__" (t+4) (.int i (t+3))::l) n
section
def zB (d:FuncData):Obj:=⟨.type "function",none,.func d,#[]⟩
def fM (s:Stmt)(q:Str)(m:Value)(c:Addr):=jQ s q m (.ref c) [] .none
def cq (d:FuncData)(c:Addr):=(c,d.qualname)
def fe (a:Addr)(d:FuncData):Addr×Obj:=(a,zB d)
def er (x:Str)(t:Nat)(a:Addr):DictEntry:=en P x t (.ref a)
def ln (a:Int)(c:Addr)(t:List Value):=.int a 0::.int 0 0::.ref c::t
def jR:Value:=.str "fdsolve.domains" 187
def M6:Value:=.str "fdsolve.store" 321
def mo2:Value:=.str "fdsolve.answers" 763
def KZ:Value:=.str "fdsolve.search" 2315
def Xf:Value:=.str "fdsolve.linear" 2653
def Zz:Value:=.str "fdsolve.solver" 4257
def uS:Value:=.str "fdsolve.flat" 4441
def uT:Value:=.str "law_nz0036_01" 4506
def Z9 (n:Nat):=M4 "Propagator" 305 nG ((List.take n [355,442,549,749,782,916,989,1117,1276,1350,1849,1894,1936,1986,2010,2110,2231,2332,2379,2435,2477,2533,2630,2804,2865,2918]).map .ref) none 517
def uu (x:DictEntry)(t:List DictEntry):List DictEntry:=x::en P "__doc__" 166 .none::en P "__package__" 167 .none::en P "__loader__" 168 (.builtin "__main__.__loader__#opaque")::en P "__spec__" 169 .none::er P "__annotations__" 170 6::er P "__builtins__" 171 4::en P "__file__" 173 (.str "/claim/cut.py" 172)::en P "__cached__" 174 .none::t
def zW:=Xe (uu P (en P "__name__" 165 (.str "__main__" 164)) []) 9
def uv (t:List Value):=t
def uw:=Zy (uv [])
def aA:Obj:=⟨(.type "code"),none,.fields #[(.str "<module>" 182),(.str "<module>" 183),(.str "/claim/cut.py" 184),(.int 1 0),(.int 0 0),(.int 0 0),(.int 0 0),(.int 0 0),(.ref 11),(.bool false),(.int 181 0),(.ref 12),.none,.none,.none,.none,(.int 185 0),(.int 1 0),(.str "/claim/cut.py" 186)],#[]⟩
def p8:=fM (st 2) "least" jR 27
def p9:=fM (st 3) "greatest" jR 34
def qA:=fM (st 7) "has" jR 53
def qB:=fM (st 10) "up_to" jR 65
def qC:=fM (st 11) "from_on" jR 70
def qD:=fM (st 12) "without" jR 77
def qE:=fM (st 15) "negation" jR 98
def aB:=fM (st 16) "struck" jR 105
def aC:=fM (st 17) "said_of" jR 112
def aD:=fM (sm 19 0) "Store.__init__" M6 126
def aE:=fM (sm 19 1) "Store.new_var" M6 133
def aF:=fM (sm 19 2) "Store.size" M6 140
def aG:=fM (sm 19 3) "Store.dom" M6 147
def aH:=fM (sm 19 4) "Store.initial" M6 154
def aI:=fM (sm 19 5) "Store.low" M6 161
def aJ:=fM (sm 19 6) "Store.high" M6 168
def aK:=fM (sm 19 8) "Store.is_fixed" M6 182
def aM:=fM (sm 19 9) "Store.value" M6 189
def aN:=fM (sm 19 11) "Store.holds" M6 203
def aO:=fM (sm 19 12) "Store.enter" M6 210
def aP:=fM (sm 19 13) "Store.strike" M6 217
def aQ:=fM (sm 19 14) "Store.decide" M6 224
def aS:=fM (sm 19 15) "Store.fail" M6 231
def aT:=fM (sm 19 16) "Store.push" M6 238
def aU:=fM (sm 19 17) "Store.pop" M6 245
def aV:=fM (sm 19 18) "Store.depth" M6 252
def aW:=fM (sm 19 19) "Store.changed" M6 259
def zX:=jH P 330 M6 70 [er P "__init__" 341 127,er P "new_var" 349 134,er P "size" 356 141,er P "dom" 364 148,er P "initial" 372 155,er P "low" 380 162,er P "high" 388 169,er P "has" 397 176,er P "is_fixed" 406 183,er P "value" 414 190,er P "width" 422 197,er P "holds" 430 204,er P "enter" 443 211,er P "strike" 452 218,er P "decide" 460 225,er P "fail" 468 232,er P "push" 475 239,er P "pop" 485 246,er P "depth" 492 253,er P "changed" 500 260,er P "__static_attributes__" 509 261,er P "__dict__" 511 264,er P "__weakref__" 513 265,en P "__doc__" 514 .none] 4
def zY:=M4 "Store" 263 nG [] none 323
def aX:=fM (sm 20 0) "Propagator.__init__" M6 280
def zZ:=jH P 524 M6 166 [er P "__init__" 537 281,er P "propagate" 545 288,er P "check" 553 295,er P "told" 560 302,er P "__static_attributes__" 564 303,er P "__dict__" 566 306,er P "__weakref__" 568 307,en P "__doc__" 569 .none] 4
def za:Obj:=⟨(.type "tuple"),none,.seq #[(.str "linear_le" 765),(.str "linear_eq" 766),(.str "linear_ne" 767)] 0,#[]⟩
def aY:=fM (st 31) "piece_text" mo2 453
def aZ:=fM (st 32) "output_text" mo2 458
def ux (x:DictEntry)(t:List DictEntry):List DictEntry:=uu P x (er P "put_behind" 197 21::er P "least" 204 28::er P "greatest" 211 35::er P "size" 217 40::er P "size_domains" 218 40::er P "next_from" 228 47::er P "has" 236 54::er P "has_domains" 237 54::er P "values" 247 61::er P "up_to" 253 66::er P "from_on" 259 71::er P "without" 267 78::er P "meet" 280 85::er P "join" 291 92::er P "negation" 301 99::er P "struck" 311 106::er P "said_of" 320 113::er P "Store" 516 263::er P "Propagator" 571 305::er P "AllDifferentBounds" 630 355::er P "Matching" 695 393::er P "AllDifferentValues" 762 442::er P "LINEAR" 768 445::er P "ARITH" 775 446::er P "CHOICES" 781 447::er P "COUNTS" 786 448::er P "ORDERS" 791 449::er P "piece_text" 797 454::er P "output_text" 803 459::er P "ceiling" 813 466::t)
def zb:=Xe (ux P (en P "__name__" 165 (.str "fdsolve.arith" 804)) []) 39
def nH (t:List Value):=ln 2 20 <| ln 8 27 <| ln 10 34 <| ln 12 39 <| ln 15 46 <| ln 20 53 <| ln 23 60 <| ln 28 65 <| ln 30 70 <| ln 32 77 <| ln 34 84 <| ln 45 91 <| ln 50 98 <| ln 57 105 <| ln 64 112 <| ln 70 119 <| ln 166 273 <| ln 182 316 <| ln 227 363 <| ln 267 404 <| ln 314 453 <| ln 325 458 <| ln 328 465 <| t
def uy:=Zy (nH [])
def uz (x:DictEntry)(t:List DictEntry):List DictEntry:=ux P x (er P "truncated" 822 473::er P "size_of" 829 480::er P "do_meet" 837 487::er P "Bounded" 921 549::er P "Times" 981 589::er P "Divided" 1011 613::er P "Quotient" 1077 660::er P "Remainder" 1145 707::t)
def zc:=Xe (uz P (en P "__name__" 165 (.str "fdsolve.arith" 804)) []) 47
def nI (t:List Value):=nH (ln 330 472 <| ln 333 479 <| ln 335 486 <| ln 337 494 <| ln 390 558 <| ln 425 597 <| ln 436 622 <| ln 465 669 <| t)
def u2:=Zy (nI [])
def QW:Obj:=⟨.none,none,.dict #[en P "type.__subclasses__.Exception.0" 1755 (.int 1145 0),en P "type.__subclasses__.Exception.n" 1756 (.int 1 0)] 2,#[]⟩
def nJ (x:DictEntry)(t:List DictEntry):=uz P x (er P "Absolute" 1199 749::er P "Extreme" 1239 782::er P "Greatest" 1287 822::er P "Smallest" 1335 862::er P "standing" 1350 871::er P "Count" 1411 916::er P "NumberOfValues" 1518 989::t)
def u3:=Xe (nJ P (en P "__name__" 165 (.str "fdsolve.counts" 1336)) []) 54
def aa (t:List Value):=nI (ln 497 716 <| ln 528 758 <| ln 543 791 <| ln 571 831 <| ln 600 870 <| ln 607 878 <| ln 648 925 <| t)
def qF:=Zy (aa [])
def nK (x:DictEntry)(t:List DictEntry):=nJ P x (er P "Placing" 1605 1039::er P "Cardinality" 1718 1117::er P "FdError" 1758 1145::er P "LimitFault" 1774 1158::er P "ProofFault" 1809 1186::er P "as_numbers" 1821 1195::t)
def u4:=Xe (nK P (en P "__name__" 165 (.str "fdsolve.cumulative" 1810)) []) 60
def ab (t:List Value):=aa (ln 716 997 <| ln 784 1050 <| ln 881 1126 <| ln 889 1154 <| ln 891 1167 <| ln 900 1194 <| t)
def qG:=Zy (ab [])
def Sk:=fM (sm 69 0) "Engine.__init__" KZ 1549
def Sl:=fM (sm 69 1) "Engine.add" KZ 1556
def Sn:=fM (sm 69 2) "Engine.degree" KZ 1563
def So:=fM (sm 69 3) "Engine.wake" KZ 1570
def Sp:=fM (sm 69 4) "Engine.ask_next" KZ 1577
def Sq:=fM (sm 69 5) "Engine.has_more" KZ 1584
def Sr:=fM (sm 69 6) "Engine.propagate" KZ 1591
def u5:=jH P 2324 KZ 1281 [er P "__init__" 2336 1550,er P "add" 2346 1557,er P "degree" 2354 1564,er P "wake" 2364 1571,er P "ask_next" 2374 1578,er P "has_more" 2381 1585,er P "propagate" 2389 1592,er P "__static_attributes__" 2399 1593,er P "__dict__" 2401 1596,er P "__weakref__" 2403 1597,en P "__doc__" 2404 .none] 4
def u6:=M4 "Engine" 1595 nG [] none 2317
def Ss:=fM (sm 71 0) "Brancher.__init__" KZ 1619
def Su:=fM (sm 71 1) "Brancher.rank" KZ 1626
def Sv:=fM (sm 71 2) "Brancher.next_var" KZ 1633
def Sw:=fM (sm 71 3) "Brancher.choose" KZ 1640
def u7:=jH P 2423 KZ 1358 [er P "__init__" 2437 1620,er P "rank" 2446 1627,er P "next_var" 2458 1634,er P "choose" 2467 1641,er P "__static_attributes__" 2472 1642,er P "__dict__" 2474 1645,er P "__weakref__" 2476 1646,en P "__doc__" 2477 .none] 4
def u8:=M4 "Brancher" 1644 nG [] none 2416
def Sx:=fM (sm 72 0) "Search.__init__" KZ 1661
def Sy:=fM (sm 72 2) "Search.back_to" KZ 1673
def Sz:=fM (sm 72 3) "Search.aim" KZ 1680
def S0:=fM (sm 72 4) "Search.descend" KZ 1687
def S3:=fM (sm 72 5) "Search.turn" KZ 1694
def S4:=fM (sm 72 6) "Search.turn_round" KZ 1701
def S5:=fM (sm 72 10) "Search.choose" KZ 1725
def S6:=fM (sm 72 11) "Search.answer" KZ 1730
def S7:=fM (sm 72 12) "Search.go_on" KZ 1737
def S8:=fM (sm 72 13) "Search.next" KZ 1744
def u9:=jH P 2487 KZ 1397 [er P "__init__" 2501 1662,er P "note" 2508 1669,er P "back_to" 2514 1674,er P "aim" 2522 1681,er P "descend" 2530 1688,er P "turn" 2537 1695,er P "turn_round" 2546 1702,er P "bar_answer" 2552 1707,er P "learn" 2562 1714,er P "restart" 2568 1719,er P "choose" 2576 1726,er P "answer" 2582 1731,er P "go_on" 2589 1738,er P "next" 2598 1745,er P "first" 2605 1752,er P "all" 2615 1759,er P "best" 2626 1766,er P "__static_attributes__" 2645 1767,er P "__dict__" 2647 1770,er P "__weakref__" 2649 1771,en P "__doc__" 2650 .none] 4
def vA:=M4 "Search" 1769 nG [] none 2480
def S9:=fM (st 74) "rows_of" Xf 1777
def TA:=fM (st 76) "least_term" Xf 1789
def TB:=fM (st 77) "least_reasons" Xf 1796
def TC:=fM (st 78) "strike_le" Xf 1801
def TD:=fM (st 79) "divisor_of" Xf 1808
def vB:Obj:=⟨(.type "cell"),none,.cell (some (.ref 1849)),#[]⟩
def LR:=jQ (sm 80 0) "LinearLe.__init__" (.str "fdsolve.linear" 2653) (.ref 1824) [("__class__",1813)] (.ref 1818)
def TE:=fM (sm 80 1) "LinearLe.propagate" Xf 1831
def vC:=jH P 2714 Xf 1579 [er P "__init__" 2729 1825,er P "propagate" 2737 1832,er P "check" 2745 1839,er P "told" 2752 1846,er P "__static_attributes__" 2756 1847,en P "__doc__" 2758 .none] 3
def vD:=M4 "LinearLe" 1849 zV [] (some (.ref 1810)) 2707
def vE:Obj:=⟨(.type "cell"),none,.cell (some (.ref 1894)),#[]⟩
def LU:=jQ (sm 81 0) "LinearEq.__init__" (.str "fdsolve.linear" 2653) (.ref 1866) [("__class__",1855)] (.ref 1860)
def TF:=fM (sm 81 1) "LinearEq.bounds" Xf 1871
def TG:=fM (sm 81 2) "LinearEq.propagate" Xf 1876
def vF:=jH P 2768 Xf 1595 [er P "__init__" 2783 1867,er P "bounds" 2789 1872,er P "propagate" 2795 1877,er P "check" 2803 1884,er P "told" 2810 1891,er P "__static_attributes__" 2815 1892,en P "__doc__" 2817 .none] 3
def vG:=M4 "LinearEq" 1894 zV [] (some (.ref 1852)) 2761
def nL (x:DictEntry)(t:List DictEntry):=nK P x (er P "Cumulative" 1948 1276::er P "Disjunctive" 2053 1350::er P "is_met" 2065 1359::er P "implies" 2075 1366::er P "elders" 2090 1373::er P "spot_of" 2101 1380::er P "Nogoods" 2210 1458::er P "Analyst" 2314 1532::t)
def vH:=Xe (nL P (en P "__name__" 165 KZ) []) 68
def ac (t:List Value):=ab (ln 905 1202 <| ln 1002 1285 <| ln 1089 1358 <| ln 1096 1365 <| ln 1107 1372 <| ln 1120 1379 <| ln 1129 1386 <| ln 1218 1468 <| t)
def qH:=Zy (ac [])
def nM (x:DictEntry)(t:List DictEntry):=nL P x (er P "Engine" 2406 1595::er P "luby" 2415 1606::er P "Brancher" 2479 1644::er P "Search" 2652 1769::er P "rows_of" 2660 1778::er P "sum_at" 2666 1783::er P "least_term" 2675 1790::er P "least_reasons" 2688 1797::er P "strike_le" 2694 1802::t)
def vI:=Xe (nM P (en P "__name__" 165 Xf) []) 77
def ae (t:List Value):=ac (ln 1281 1542 <| ln 1349 1605 <| ln 1358 1612 <| ln 1397 1654 <| ln 1542 1777 <| ln 1547 1782 <| ln 1549 1789 <| ln 1551 1796 <| ln 1561 1801 <| t)
def qI:=Zy (ae [])
def nN (x:DictEntry)(t:List DictEntry):=nM P x (er P "divisor_of" 2706 1809::er P "LinearLe" 2760 1849::er P "LinearEq" 2819 1894::er P "LinearNe" 2878 1936::er P "is_one" 2887 1945::er P "is_nought" 2894 1952::er P "ClauseOf" 2941 1986::t)
def vJ:=Xe (nN P (en P "__name__" 165 (.str "fdsolve.logic" 2879)) []) 84
def af (t:List Value):=ae (ln 1571 1808 <| ln 1579 1816 <| ln 1595 1858 <| ln 1622 1903 <| ln 1652 1944 <| ln 1654 1951 <| ln 1656 1958 <| t)
def qJ:=Zy (af [])
def vK:Obj:=⟨(.type "cell"),none,.cell (some (.ref 1936)),#[]⟩
def LY:=jQ (sm 82 0) "LinearNe.__init__" (.str "fdsolve.linear" 2653) (.ref 1911) [("__class__",1900)] (.ref 1905)
def TH:=fM (sm 82 1) "LinearNe.propagate" Xf 1918
def vM:=jH P 2827 Xf 1622 [er P "__init__" 2842 1912,er P "propagate" 2855 1919,er P "check" 2863 1926,er P "told" 2870 1933,er P "__static_attributes__" 2874 1934,en P "__doc__" 2876 .none] 3
def vN:=M4 "LinearNe" 1936 zV [] (some (.ref 1897)) 2820
def nP (x:DictEntry)(t:List DictEntry):=nN P x (er P "Joint" 2978 2010::er P "AllOf" 3015 2041::er P "AnyOf" 3052 2072::er P "Xor" 3103 2110::er P "Row" 3234 2189::er P "Implied" 3286 2231::er P "Reified" 3336 2271::er P "Circuit" 3425 2332::t)
def vO:=Xe (nP P (en P "__name__" 165 (.str "fdsolve.order" 3337)) []) 92
def ah (t:List Value):=af (ln 1686 1994 <| ln 1714 2018 <| ln 1724 2049 <| ln 1734 2080 <| ln 1762 2118 <| ln 1855 2199 <| ln 1876 2239 <| ln 1899 2280 <| t)
def qK:=Zy (ah [])
def nQ (x:DictEntry)(t:List DictEntry):=nP P x (er P "Inverse" 3494 2379::er P "LexOrder" 3583 2435::er P "Increasing" 3636 2477::er P "Precede" 3715 2533::t)
def vP:=Xe (nQ P (en P "__name__" 165 (.str "fdsolve.regular" 3716)) []) 96
def ai (t:List Value):=ah (ln 1965 2341 <| ln 2006 2388 <| ln 2055 2444 <| ln 2079 2486 <| t)
def qL:=Zy (ai [])
def vQ:Obj:=⟨(.type "tuple"),none,.seq #[(.str "input_order" 4267),(.str "first_fail" 4268),(.str "smallest" 4269),(.str "largest" 4270),(.str "most_constrained" 4271)] 0,#[]⟩
def vR:Obj:=⟨(.type "tuple"),none,.seq #[(.str "min" 4273),(.str "max" 4274),(.str "median" 4275),(.str "split" 4276)] 0,#[]⟩
def TJ:=fM (st 131) "linear_rule" Zz 2928
def TL:=fM (st 137) "rule_of" Zz 2970
def TM:=fM (st 138) "engine_of" Zz 2977
def TN:=fM (st 140) "check_options" Zz 2989
def TP:=fM (sm 141 0) "Solver.__init__" Zz 3001
def TQ:=fM (sm 141 1) "Solver.next_answer" Zz 3008
def TR:=fM (sm 141 2) "Solver.want_better" Zz 3015
def TU:=fM (sm 141 3) "Solver.answers" Zz 3022
def TV:=fM (sm 141 4) "Solver.is_over" Zz 3029
def vS:=jH P 4370 Zz 2623 [er P "__init__" 4380 3002,er P "next_answer" 4387 3009,er P "want_better" 4397 3016,er P "answers" 4407 3023,er P "is_over" 4414 3030,er P "__static_attributes__" 4417 3031,er P "__dict__" 4419 3034,er P "__weakref__" 4421 3035,en P "__doc__" 4422 .none] 4
def vT:=M4 "Solver" 3033 nG [] none 4363
def TW:=fM (st 142) "run_flat" Zz 3043
def nT (x:DictEntry)(t:List DictEntry):=nQ P x (er P "Regular" 3875 2630::er P "shape_of" 3884 2639::er P "renamed" 3890 2644::er P "vars_of" 3900 2651::er P "plain_linear" 3906 2656::er P "rows_sorted" 3912 2661::er P "plain_table" 3918 2666::er P "plain_counted" 3925 2673::er P "plain" 3933 2680::er P "forms" 3939 2685::er P "are_alike" 3945 2690::er P "exchanged" 3954 2697::er P "var_lots" 3960 2702::er P "var_tolds" 3966 2707::er P "lacking" 3977 2714::er P "once_each" 3983 2719::er P "between" 3992 2726::er P "room" 3998 2731::er P "Element" 4105 2804::t)
def vU:=Xe (nT P (en P "__name__" 165 (.str "fdsolve.tables" 3967)) []) 115
def qM (t:List Value):=ai (ln 2121 2542 <| ln 2246 2638 <| ln 2272 2643 <| ln 2283 2650 <| ln 2293 2655 <| ln 2301 2660 <| ln 2304 2665 <| ln 2309 2672 <| ln 2317 2679 <| ln 2336 2684 <| ln 2338 2689 <| ln 2341 2696 <| ln 2343 2701 <| ln 2352 2706 <| ln 2355 2713 <| ln 2363 2718 <| ln 2365 2725 <| ln 2369 2730 <| ln 2371 2738 <| t)
def qN:=Zy (qM [])
def vV (x:DictEntry)(t:List DictEntry):=nT P x (er P "ElementOf" 4190 2865::er P "Table" 4256 2918::en P "AFTER_ANSWER" 4260 (.str "----------" 4259)::en P "ALL_SAID" 4262 (.str "==========" 4261)::en P "NO_ANSWER" 4264 (.str "=====UNSATISFIABLE=====" 4263)::en P "NOT_KNOWN" 4266 (.str "=====UNKNOWN=====" 4265)::er P "BRANCH_ORDERS" 4272 2921::er P "BRANCH_CHOICES" 4277 2922::er P "linear_rule" 4288 2929::er P "arith_rule" 4296 2936::er P "choice_rule" 4304 2943::er P "count_rule" 4312 2950::er P "order_rule" 4320 2957::er P "logic_rule" 4328 2964::er P "rule_of" 4337 2971::er P "engine_of" 4349 2978::er P "kept_apart" 4355 2983::er P "check_options" 4362 2990::er P "Solver" 4424 3033::er P "run_flat" 4440 3044::er P "Flat" 4505 3089::er P "_law_dip" 4516 3100::er P "_law_told" 4525 3107::er P "_law_keeps" 4534 3114::er P "_law_due" 4548 3121::er P "law" 4554 3126::t)
def vW:=Xe (vV P (en P "__name__" 165 uT) []) 141
def TX:=fM (sm 144 0) "Flat.__init__" uS 3057
def TY:=fM (sm 144 1) "Flat.new_var" uS 3064
def TZ:=fM (sm 144 2) "Flat.post" uS 3071
def Ta:=fM (sm 144 3) "Flat.size" uS 3078
def Tb:=fM (sm 144 4) "Flat.domain_of" uS 3085
def vX:=jH P 4450 uS 2681 [er P "__init__" 4461 3058,er P "new_var" 4470 3065,er P "post" 4478 3072,er P "size" 4485 3079,er P "domain_of" 4493 3086,er P "__static_attributes__" 4498 3087,er P "__dict__" 4500 3090,er P "__weakref__" 4502 3091,en P "__doc__" 4503 .none] 4
def vY:=M4 "Flat" 3089 nG [] none 4443
def Tc:=fM (st 146) "_law_dip" uT 3099
def Td:=fM (st 147) "_law_told" uT 3106
def Te:=fM (st 148) "_law_keeps" uT 3113
def Tf:=fM (st 149) "_law_due" uT 3120
def Bo:=fM (st 150) "law" uT 3125
def hs0:=[(0,boot_o_0 P),(4,boot_o_4 P),(5,boot_o_5 P)]
def aj:=[(2,boot_o_2 P),(3,zW P),(12,uw),(13,aA)]++hs0 P
def uU:List (Addr×Obj):=[(445,za),fe 454 aY,fe 459 aZ,fe 281 aX,(304,zZ P),fe 127 aD,fe 134 aE,fe 141 aF,fe 148 aG,fe 155 aH,fe 162 aI,fe 169 aJ,fe 183 aK,fe 190 aM,fe 204 aN,fe 211 aO,fe 218 aP,fe 225 aQ,fe 232 aS,fe 239 aT,fe 246 aU,fe 253 aV,fe 260 aW,(262,zX P),(263,zY),fe 28 p8,fe 35 p9,fe 54 qA,fe 66 qB,fe 71 qC,fe 78 qD,fe 99 qE,fe 106 aB,fe 113 aC]++hs0 P
def qO:List (Addr×Obj):=[(2,boot_o_2 P),(3,zb P),(12,uy),(13,aA),(305,Z9 2)]++uU P
def qP:=[(2,boot_o_2 P),(3,zc P),(12,u2),(13,aA),(305,Z9 3)]++uU P
def ak:List (Addr×Obj):=[(2,boot_o_2 P),(3,u3 P),(12,qF),(13,aA),(305,Z9 7)]++uU P
def am:List (Addr×Obj):=[(2,QW P),(3,u4 P),(12,qG),(13,aA),(305,Z9 8)]++uU P
def ap:List (Addr×Obj):=[(2,QW P),(3,vH P),(12,qH),(13,aA),(305,Z9 10)]++uU P
def vZ:List (Addr×Obj):=[fe 1662 Sx,fe 1674 Sy,fe 1681 Sz,fe 1688 S0,fe 1695 S3,fe 1702 S4,fe 1726 S5,fe 1731 S6,fe 1738 S7,fe 1745 S8,(1768,u9 P),(1769,vA),fe 1778 S9,fe 1790 TA,fe 1797 TB,fe 1802 TC,fe 1550 Sk,fe 1557 Sl,fe 1564 Sn,fe 1571 So,fe 1578 Sp,fe 1585 Sq,fe 1592 Sr,(1594,u5 P),(1595,u6),fe 1620 Ss,fe 1627 Su,fe 1634 Sv,fe 1641 Sw,(1643,u7 P),(1644,u8)]++uU P
def aq:List (Addr×Obj):=[(2,QW P),(3,vI P),(12,qI),(13,aA),(305,Z9 10)]++vZ P
def au:List (Addr×Obj):=[(1900,vK),fe 1912 LY,fe 1919 TH,(1935,vM P),(1936,vN),fe 1809 TD,(1813,vB),fe 1825 LR,fe 1832 TE,(1848,vC P),(1849,vD),(1855,vE),fe 1867 LU,fe 1872 TF,fe 1877 TG,(1893,vF P),(1894,vG)]++vZ P
def aw:List (Addr×Obj):=[(2,QW P),(3,vJ P),(12,qJ),(13,aA),(305,Z9 14)]++au P
def ax:List (Addr×Obj):=[(2,QW P),(3,vO P),(12,qK),(13,aA),(305,Z9 18)]++au P
def ay:List (Addr×Obj):=[(2,QW P),(3,vP P),(12,qL),(13,aA),(305,Z9 22)]++au P
def az:List (Addr×Obj):=[(2,QW P),(3,vU P),(12,qN),(13,aA),(305,Z9 24)]++au P
def zd:List (Addr×Obj):=[fe 3058 TX,fe 3065 TY,fe 3072 TZ,fe 3079 Ta,fe 3086 Tb,(3088,vX P),(3089,vY),fe 3100 Tc,fe 3107 Td,fe 3114 Te,fe 3121 Tf,fe 3126 Bo,(2921,vQ),(2922,vR),fe 2929 TJ,fe 2971 TL,fe 2978 TM,fe 2990 TN,fe 3002 TP,fe 3009 TQ,fe 3016 TR,fe 3023 TU,fe 3030 TV,(3032,vS P),(3033,vT),fe 3044 TW]++au P
def Gd:List (Addr×Obj):=[(2,QW P),(3,vW P),(305,Z9 26)]++zd P
end
def ze:List (Addr×Str):=[]
def jS:List (Addr×Str):=ze
def vg:List (Addr×Str):=[cq aZ 458,cq aY 453,cq aX 280,cq aD 126,cq aE 133,cq aF 140,cq aG 147,cq aH 154,cq aI 161,cq aJ 168,cq aK 182,cq aM 189,cq aN 203,cq aO 210,cq aP 217,cq aQ 224,cq aS 231,cq aT 238,cq aU 245,cq aV 252,cq aW 259,cq p8 27,cq p9 34,cq qB 65,cq qC 70,cq qE 98,cq qD 77,cq aB 105,cq aC 112,cq qA 53]
def LZ:List (Addr×Str):=vg++jS
def nV:List (Addr×Str):=[cq S9 1777,cq TA 1789,cq TB 1796,cq TC 1801,cq Sx 1661,cq Sy 1673,cq Sz 1680,cq S0 1687,cq S3 1694,cq S4 1701,cq S5 1725,cq S6 1730,cq S7 1737,cq S8 1744,cq Sk 1549,cq Sl 1556,cq Sn 1563,cq So 1570,cq Sp 1577,cq Sq 1584,cq Sr 1591,cq Ss 1619,cq Su 1626,cq Sv 1633,cq Sw 1640]
def bA:List (Addr×Str):=nV++LZ
def nW:List (Addr×Str):=[(1911,Str.ofString "LinearNe.__init__"),cq TH 1918,cq TD 1808,(1824,Str.ofString "LinearLe.__init__"),cq TE 1831,(1866,Str.ofString "LinearEq.__init__"),cq TF 1871,cq TG 1876]
def Ie:=nW++bA
def nY:List (Addr×Str):=[cq Tc 3099,cq Td 3106,cq Te 3113,cq Tf 3120,cq Bo 3125,cq TX 3057,cq TY 3064,cq TZ 3071,cq Ta 3078,cq Tb 3085,cq TJ 2928,cq TL 2970,cq TM 2977,cq TN 2989,cq TW 3043,cq TP 3001,cq TQ 3008,cq TR 3015,cq TU 3022,cq TV 3029]
def NW:=nY++Ie
end
def Ge (hot:List (Addr×Obj))(G:Nat->Option Obj):Nat->Option Obj:=λa=>match En hot a with|some o=>some o|none=>G a
def QX (v:Value):Option Addr:=match v with|.ref i=>some i|_=>none
def QY (v:Value):Option Str:=match v with|.str s _=>some s|_=>none
def JU (q:Str)(o:Obj):Bool:=(match o.data with|.fields vs=>some vs|_=>none).any λvs=>(vs[1]?.bind QY).any (· ==q)&&(vs[2]?.bind QY).any (· ==("/claim/cut.py":Str))
def La:Pos:=⟨0,0,0,0⟩
def QZ:Env:={scope:=pw.main.scope,locals:=mainNs,globals:=mainNs,cells:=[],code:=.ref 13,frame:=some 14}
def Eo:Code:=.body (behindTheImports pw) QZ
def Ig (i m:Nat):List Stmt:=(pw.main.body.drop i).take m
def vh (hot:List (Addr×Obj))(G:Nat->Option Obj)(n₁:Nat)(as:List Nat)(nw b:List (Addr×Str))(r:Option (Flow×HS×Code×Pos)):=
 r.map λx=>(x.1,x.2.1.m,x.2.1.gens,x.2.1.drawn,x.2.1.toks,x.2.1.os,x.2.2.1,x.2.2.2,as.map λa=>lk (Ge hot G) n₁ x.2.1.al x.2.1.up x.2.1.m a,(nw.all λc=>(lk (Ge hot G) n₁ x.2.1.al x.2.1.up x.2.1.m c.1).any (JU c.2))&&b.all λc=>Nat.blt c.1 n₁&&(En x.2.1.up c.1).isNone)
abbrev nZ:=PySem.W.Fast.tw8437177126325714943
abbrev Vq:=PySem.W.Fast.tw11892475500146522536
abbrev na:=PySem.W.Fast.tw14364793385576792824
abbrev qOk:=PySem.W.Fast.tw6613529449190102663
abbrev bB:=PySem.W.Fast.tw12563942051412417395
abbrev Lb (w:World)(os:OsState)(G:Nat->Option Obj)(hot:List (Addr×Obj))(n toks N i m:Nat)(p:Pos):=
 AAR (Ge hot G) n (nZ (Vq na) pw w) (qOk 11 (some (.ref 6))) 1 N ⟨[],[],0,#[],{},toks,os⟩ ⟨(bB (Ig i m) QZ).wrap doneF deadEnd id id,Eo,p,[topFrame La]⟩
def Qa w os G hot n toks N i m p:Lb w os G hot n toks N i m p=
 AAR (Ge hot G) n (step (denote treeTable) pw w) (stepOk 11 (some (.ref 6))) 1 N ⟨[],[],0,#[],{},toks,os⟩ (piecesOf (Ig i m) QZ Eo p [topFrame La]):=by
 unfold Lb nZ Vq na qOk bB;rw[<-PySem.W.Fast.te8437177126325714943,<-PySem.W.Fast.te11892475500146522536,<-PySem.W.Fast.te14364793385576792824,<-PySem.W.Fast.te6613529449190102663,<-PySem.W.Fast.te12563942051412417395]
def C8 (hot a:Params->List (Addr×Obj))(nw c:List (Addr×Str))(n toks N i m:Nat)(p:Pos)(m' b:Nat)(d:Pos):Prop:=
 ∀(w:World) (os:OsState) (G:Nat->Option Obj),vh (hot w.params) G n ((a w.params).map (·.1)) nw c (Lb w os G (hot w.params) n toks N i m p)=
  some (.next,m',#[],{},b,os,Eo,d,(a w.params).map λx=>some x.2,true)
theorem qQ:C8 aj qO vg jS 15 187 2966 0 35 ⟨0,0,0,0⟩ 452 814 ⟨328,0,329,21⟩:=λw os G=>by kernel_rfl
theorem qR:C8 qO qP [] LZ 467 814 2083 35 8 ⟨328,0,329,21⟩ 243 1146 ⟨465,0,496,68⟩:=λw os G=>by kernel_rfl
theorem qS:C8 qP ak [] LZ 710 1146 2378 43 8 ⟨465,0,496,68⟩ 282 1519 ⟨648,0,715,45⟩:=λw os G=>by kernel_rfl
theorem jT:C8 ak am [] LZ 992 1519 1785 51 8 ⟨648,0,715,45⟩ 204 1822 ⟨900,0,904,16⟩:=λw os G=>by kernel_rfl
theorem jU:C8 am ap [] LZ 1196 1822 2330 59 10 ⟨900,0,904,16⟩ 341 2317 ⟨1280,0,1280,8⟩:=λw os G=>by kernel_rfl
theorem jV:C8 ap aq nV LZ 1537 2317 1684 69 10 ⟨1280,0,1280,8⟩ 266 2695 ⟨1561,0,1570,15⟩:=λw os G=>by kernel_rfl
theorem jW:C8 aq aw nW bA 1803 2695 1548 79 8 ⟨1561,0,1570,15⟩ 186 2942 ⟨1656,0,1685,57⟩:=λw os G=>by kernel_rfl
theorem jX:C8 aw ax [] Ie 1989 2942 2984 87 9 ⟨1656,0,1685,57⟩ 346 3426 ⟨1899,0,1964,38⟩:=λw os G=>by kernel_rfl
theorem jY:C8 ax ay [] Ie 2335 3426 1643 96 5 ⟨1899,0,1964,38⟩ 201 3718 ⟨2120,0,2120,8⟩:=λw os G=>by kernel_rfl
theorem jZ:C8 ay az [] Ie 2536 3718 1696 101 21 ⟨2120,0,2120,8⟩ 271 4106 ⟨2371,0,2433,19⟩:=λw os G=>by kernel_rfl
theorem ja:C8 az Gd nY Ie 2807 4106 2187 122 29 ⟨2371,0,2433,19⟩ 320 4555 ⟨2726,0,2747,41⟩:=λw os G=>by kernel_rfl
def ID (h:∀x∈hot,G x.1=some x.2):Ge hot G=G:=by
 funext a
 unfold Ge;have:∀(l:List (Addr×Obj)),(∀x∈l,G x.1=some x.2)->∀o,En l a=some o->G a=some o:=by
  intro l
  induction l with
  |nil=>intro _ o e;ext e
  |cons p l ih=>
   intro hl o e;rw[Cx] at e
   by_cases q:p.1=a
   · rw[if_pos q] at e;ext e;rw[<-q];show hl p (Sg ..)
   · rw[if_neg q] at e;show ih (λx hx=>hl x (Zo _ hx)) o e
 cases q:En hot a with
 |none=>rfl
 |some o=>show(this hot h o q).symm
def Gf (P:Params):=(boot_heap P).life
structure bC (hot:Params->List (Addr×Obj)) (cod:List (Addr×Str)) (n toks:Nat) (P:Params) (os:OsState) (s:Shared):Prop where
 is:∃G,s=⟨heapOf G n (Gf P),#[],{},toks,os⟩/\(∀x∈hot P,G x.1=some x.2)/\∀c∈cod,∃o,G c.1=some o/\JU c.2 o
def Xg {hot u}{cod nw}{n toks N i m}{p}{m' j}{C}(H:C8 hot u nw cod n toks N i m p m' j C)
 w os s (I:bC hot cod n toks w.params os s):
  ∃s',segRun treeTable pw w 11 (some (.ref 6)) 1 N s (piecesOf (Ig i m) QZ Eo p [topFrame La])=some (.next,s',Eo,C)/\bC u (nw++cod) (n+m') j w.params os s':=by
  obtain⟨G,rfl,hg,hk⟩:=I.is;have h:=H w os G;rw[Qa] at h;unfold vh at h;obtain⟨⟨f,⟨al,up,g,gens,drawn,tk,d⟩,c,q⟩,e1,t⟩:=XX.mp h;simp only[Prod.mk.injEq] at t;obtain⟨rfl,rfl,rfl,rfl,rfl,rfl,rfl,rfl,v,k⟩:=t;have r:=LN (life:=Gf w.params) e1;have a0:HS.abs (Ge (hot w.params) G) n (Gf w.params) ⟨[],[],0,#[],{},toks,d⟩=⟨heapOf G n (Gf w.params),#[],{},toks,d⟩:=by
   unfold HS.abs;have:heapOf (lk (Ge (hot w.params) G) n [] [] 0) (n+0) (Gf w.params)=heapOf G n (Gf w.params):=by
    rw[Nat.add_zero];show F0 λa z=>?_;unfold lk;have:Nat.ble n a=false:=by
     cases hb:Nat.ble n a with
     |false=>rfl
     |true=>show absurd (Gs.mp hb) (by lia)
    rw[this,ID hg];rfl
   rw[this]
  rw[a0] at r;show⟨_,r,⟨lk (Ge (hot w.params) G) n al up g,rfl,λx hx=>?_,λc b=>?_⟩⟩
  · rw[List.map_map] at v;show(List.map_inj_left.mp v) x hx
  · obtain⟨k,y⟩:=DQ.mp k
    rcases List.mem_append.mp b with b|b
    · have hb:=QL.mp k c b;cases ho:lk (Ge (hot w.params) G) n al up g c.1 with|none=>rw[ho] at hb;ext hb|some o=>rw[ho] at hb;show⟨o,rfl,hb⟩
    · obtain⟨q,l⟩:=DQ.mp (QL.mp y c b);obtain⟨o,ho,hi⟩:=hk c b;show⟨o,?_,hi⟩;have l:=Option.isNone_iff_eq_none.mp l;have q:Nat.ble n c.1=false:=by
       cases hb:Nat.ble n c.1 with
       |false=>rfl
       |true=>show absurd (Gs.mp hb) (Nat.not_le.mpr (Gu.mp q))
      unfold lk;rw[q];change (match En up c.1 with|some o=>some o|none=>Ge (hot w.params) G c.1)=some o;rw[l,ID hg];show ho
def Runs (hot:Params->List (Addr×Obj))(cod:List (Addr×Str))(n toks i M:Nat)(p:Pos)(R:World->OsState->Shared->Prop):Prop:=
 ∀(w:World) (os:OsState) (s:Shared),bC hot cod n toks w.params os s->∃r,topRun treeTable pw w 11 (some (.ref 6)) M s (restOf (pw.main.body.drop i) QZ Eo p [topFrame La])=some r/\R w os r
def Runs.step {hot u}{cod nw}{n toks N i m}{p}{m' j}{C}{M}{R}
 (next:Runs u (nw++cod) (n+m') j (i+m) M C R) (H:C8 hot u nw cod n toks N i m p m' j C):Runs hot cod n toks i (N+M) p R:=by
  intro w os s I;obtain⟨s',h1,a⟩:=Xg H w os s I;obtain⟨r,b,hr⟩:=next w os s' a;show⟨r,?_,hr⟩;have e:pw.main.body.drop i=Ig i m++pw.main.body.drop (i+m):=by
   unfold Ig;rw[<-List.drop_drop,uI]
  rw[e];show piece_app h1 b
abbrev Fg:World->OsState->Shared->Prop:=λw os r=>bC Gd NW 3127 4555 w.params os r
def qT:Runs Gd NW 3127 4555 151 2 ⟨2726,0,2747,41⟩ Fg:=by
 intro w os s I;show⟨s,?_,I⟩;obtain⟨G,rfl,_⟩:=I.is;have e:pw.main.body.drop 151=[]:=∅
 rw[e];show piece_nil ?_
 kernel_rfl
theorem qU:Runs az Ie 2807 4106 122 2189 ⟨2371,0,2433,19⟩ Fg:=Runs.step qT ja
theorem qV:Runs ay Ie 2536 3718 101 3885 ⟨2120,0,2120,8⟩ Fg:=Runs.step qU jZ
theorem qW:Runs ax Ie 2335 3426 96 5528 ⟨1899,0,1964,38⟩ Fg:=Runs.step qV jY
theorem qX:Runs aw Ie 1989 2942 87 8512 ⟨1656,0,1685,57⟩ Fg:=Runs.step qW jX
theorem qY:Runs aq bA 1803 2695 79 10060 ⟨1561,0,1570,15⟩ Fg:=Runs.step qX jW
theorem qZ:Runs ap LZ 1537 2317 69 11744 ⟨1280,0,1280,8⟩ Fg:=Runs.step qY jV
theorem qa:Runs am LZ 1196 1822 59 14074 ⟨900,0,904,16⟩ Fg:=Runs.step qZ jU
theorem qd:Runs ak LZ 992 1519 51 15859 ⟨648,0,715,45⟩ Fg:=Runs.step qa jT
theorem vm:Runs qP LZ 710 1146 43 18237 ⟨465,0,496,68⟩ Fg:=Runs.step qd qS
theorem vp:Runs qO LZ 467 814 35 20320 ⟨328,0,329,21⟩ Fg:=Runs.step vm qR
theorem vt:Runs aj jS 15 187 0 23286 ⟨0,0,0,0⟩ Fg:=Runs.step vp qQ
end
section
open PySem PySem.W PyProof.Rows
open TablesWhole
def ev (f:Scope->Str->Bool):Alg Bool:=⟨λsc n Z=>f sc n,λZ Z Z Z=>true,λZ=>true,true,false,λa b=>a&&b⟩
structure Le (a b:Bool):Prop where
 go:a->b
def Le.and (h:Le a c)(k:Le b d):Le (a&&b) (c&&d):=by
 show⟨?_⟩;simp only[Bool.and_eq_true];show λx=>⟨h.go x.1,k.go x.2⟩
theorem Le.tt:Le a true:=⟨λZ=>rfl⟩
theorem Le.refl:Le a a:=⟨λh=>h⟩
def Le.ite [Decidable c] (h:Le a j)(k:Le b u):Le (if c then a else b) (if c then j else u):=by
 by_cases q:c
 · rw[if_pos q,if_pos q];show h
 · rw[if_neg q,if_neg q];show k
theorem Le.both (h:Le a c)(k:Le b d):Le ((ev f).both a b) ((ev g).both c d):=Le.and h k
theorem Le.cons (h:Le a b)(k:Le ((ev f).all l) ((ev g).all m)):Le ((ev f).all (a::l)) ((ev g).all (b::m)):=Le.and h k
theorem Le.nil:Le ((ev f).all []) ((ev g).all []):=Le.refl
theorem Le.allMap:∀(l:List α),(∀x∈l,Le (p x) (q x))->Le ((ev f).all (l.map p)) ((ev g).all (l.map q))|[],_=>Le.tt|x::r,h=>Le.and (h x (Sg ..)) (Le.allMap r λy m=>h y (Zo _ m))
section
variable {f g:Scope->Str->Bool}(hfg:∀sc n,Le (f sc n) (g sc n))
include hfg
theorem Bk cx j sc n p:Le ((ev f).bind cx sc n p) ((ev g).bind j sc n p):=Le.both (hfg sc n) Le.tt
def F1 cx j sc n p:Le ((ev f).optName cx sc n p) ((ev g).optName j sc n p):=by
 cases n with
 |none=>show Le.tt
 |some n=>show Bk hfg ..
omit hfg in
def JV (l:List α):(ev g).all (l.map λZ=>true):=by
 induction l with
 |nil=>rfl
 |cons x r ih=>show ih
omit hfg in
def IE a u j:Le ((ev f).inlined a j) ((ev g).inlined u j):=by
 show⟨λZ=>?_⟩;unfold Alg.inlined
 split
 · rfl
 · show JV _
def B3 ch u c c' H C pa j:Le ((ev f).enterFrom ch c H pa j) ((ev g).enterFrom u c' C pa j):=by
 unfold Alg.enterFrom;show Le.cons Le.tt (Le.cons Le.tt (Le.cons (Le.allMap _ λx Z=>Le.both (hfg _ _) Le.tt) (Le.cons ⟨λZ=>JV _⟩ (Le.cons ?_ (Le.cons ?_ (Le.cons ?_ Le.nil))))))
 · split
   · show⟨λZ=>JV _⟩
   · show Le.tt
 · split
   · show Le.tt
   · show⟨λZ=>JV _⟩
 · split
   · show Le.both (hfg _ _) Le.tt
   · show Le.tt
theorem NX j p:Le ((ev f).params j p) ((ev g).params j p):=Le.allMap _ λZ Z=>Bk hfg ..
mutual
theorem mE cx j sc hold:∀e:Expr,Le (wE (ev f) cx sc hold e) (wE (ev g) j sc hold e)
 |.Constant .. =>Le.tt
 |.Name id pos=>Le.ite (Le.both (hfg _ _) (hfg _ _)) (hfg _ _)
 |.BoolOp _ vs _=>Sb cx j sc hold vs
 |.JoinedStr vs _=>Sb cx j sc hold vs
 |.List vs _=>Sb cx j sc hold vs
 |.Tuple vs _ _=>Sb cx j sc hold vs
 |.Set vs _ _=>Sb cx j sc hold vs
 |.NamedExpr t v _=>by
   show Le.both (mE cx j sc hold v) ?_;cases hold with
   |none=>show mT cx j sc none t
   |some h=>
    cases t<;>first|show Le.cons (hfg _ _) (Le.cons (hfg _ _) (Le.cons Le.tt Le.nil))|show⟨nofun⟩
 |.BinOp a _ b _=>Le.both (mE cx j sc hold a) (mE cx j sc hold b)
 |.Subscript a b _=>Le.both (mE cx j sc hold a) (mE cx j sc hold b)
 |.UnaryOp _ a _=>mE cx j sc hold a
 |.Attribute a _ _=>mE cx j sc hold a
 |.Starred a _=>mE cx j sc hold a
 |.Await a _=>mE cx j sc hold a
 |.YieldFrom a _=>mE cx j sc hold a
 |.Yield v _=>Sc cx j sc hold v
 |.FormattedValue a _ s _=>Le.both (mE cx j sc hold a) (Sc cx j sc hold s)
 |.IfExp a b c _=>Le.cons (mE cx j sc hold a) (Le.cons (mE cx j sc hold b) (Le.cons (mE cx j sc hold c) Le.nil))
 |.Compare a _ J _=>Le.both (mE cx j sc hold a) (Sb cx j sc hold J)
 |.Call h as H _=>Le.cons (mE cx j sc hold h) (Le.cons (Sb cx j sc hold as) (Le.cons (zC cx j sc hold H) Le.nil))
 |.Dict H vs _=>Le.both (qf cx j sc hold H) (Sb cx j sc hold vs)
 |.Slice a b c _=>Le.cons (Sc cx j sc hold a) (Le.cons (Sc cx j sc hold b) (Le.cons (Sc cx j sc hold c) Le.nil))
 |.Lambda args body u _=>Le.cons (NY cx j sc hold args) (Le.cons (B3 hfg ..) (Le.cons (NX hfg ..) (Le.cons (mE _ _ u none body) Le.nil)))
 |.ListComp e C u _=>Le.cons (B3 hfg ..) (Le.cons (IE ..) (Le.cons (Bk hfg ..) (Le.cons (Qb _ _ _ _ sc u hold _ true C) (Le.cons (mE _ _ u _ e) Le.nil))))
 |.SetComp e C u _=>Le.cons (B3 hfg ..) (Le.cons (IE ..) (Le.cons (Bk hfg ..) (Le.cons (Qb _ _ _ _ sc u hold _ true C) (Le.cons (mE _ _ u _ e) Le.nil))))
 |.GeneratorExp e C u _=>Le.cons (B3 hfg ..) (Le.cons (Bk hfg ..) (Le.cons (Qb _ _ _ _ sc u hold _ true C) (Le.cons (mE _ _ u _ e) Le.nil)))
 |.DictComp k v C u _=>Le.cons (B3 hfg ..) (Le.cons (IE ..) (Le.cons (Bk hfg ..) (Le.cons (Qb _ _ _ _ sc u hold _ true C) (Le.cons (mE _ _ u _ k) (Le.cons (mE _ _ u _ v) Le.nil)))))
theorem mT cx j sc hold:∀e:Expr,Le (wT (ev f) cx sc hold e) (wT (ev g) j sc hold e)|.Name id pos=>Bk hfg ..|.List vs _=>vw cx j sc hold vs|.Tuple vs _ _=>vw cx j sc hold vs|.Starred a _=>mT cx j sc hold a|.Attribute a _ _=>mE cx j sc hold a|.Subscript a b _=>Le.both (mE cx j sc hold a) (mE cx j sc hold b)|.Constant .. |.BoolOp .. |.JoinedStr .. |.Set .. |.NamedExpr .. |.BinOp .. |.UnaryOp .. |.Await .. |.YieldFrom .. |.Yield .. |.FormattedValue .. |.IfExp .. |.Compare .. |.Call .. |.Dict .. |.Slice .. |.Lambda .. |.ListComp .. |.SetComp .. |.GeneratorExp .. |.DictComp .. =>⟨nofun⟩
theorem Sb cx j sc hold:∀e:List Expr,Le (wEs (ev f) cx sc hold e) (wEs (ev g) j sc hold e)|[]=>Le.tt|e::r=>Le.both (mE cx j sc hold e) (Sb cx j sc hold r)
theorem vw cx j sc hold:∀e:List Expr,Le (wTs (ev f) cx sc hold e) (wTs (ev g) j sc hold e)|[]=>Le.tt|e::r=>Le.both (mT cx j sc hold e) (vw cx j sc hold r)
theorem Sc cx j sc hold:∀e:Option Expr,Le (wEo (ev f) cx sc hold e) (wEo (ev g) j sc hold e)|none=>Le.tt|some e=>mE cx j sc hold e
theorem qf cx j sc hold:∀e:List (Option Expr),Le (wEos (ev f) cx sc hold e) (wEos (ev g) j sc hold e)|[]=>Le.tt|e::r=>Le.both (Sc cx j sc hold e) (qf cx j sc hold r)
theorem zC cx j sc hold:∀e:List Keyword,Le (wKs (ev f) cx sc hold e) (wKs (ev g) j sc hold e)|[]=>Le.tt|⟨_,v,_⟩::r=>Le.both (mE cx j sc hold v) (zC cx j sc hold r)
theorem Qb cx H co C ar u j hold first:∀e:List Comprehension,Le (wGens (ev f) cx co ar u j hold first e) (wGens (ev g) H C ar u j hold first e)
 |[]=>Le.tt
 |⟨t,it,J,_⟩::r=>by
  show Le.cons ?_ (Le.cons (mT co C u hold t) (Le.cons (Sb co C u hold J) (Le.cons (Qb cx H co C ar u j hold false r) Le.nil)));cases first
  · show mE co C u hold it
  · show mE cx H ar j it
theorem NY cx j sc hold:∀e:Arguments,Le (wDefaults (ev f) cx sc hold e) (wDefaults (ev g) j sc hold e)|⟨_,_,_,_,kd,_,d⟩=>Le.both (Sb cx j sc hold d) (qf cx j sc hold kd)
theorem nb cx j sc hold:∀e:Arguments,Le (wAnns (ev f) cx sc hold e) (wAnns (ev g) j sc hold e)|⟨u,a,C,H,_,J,_⟩=>Le.cons (Ii cx j sc hold u) (Le.cons (Ii cx j sc hold a) (Le.cons (Qc cx j sc hold C) (Le.cons (Ii cx j sc hold H) (Le.cons (Qc cx j sc hold J) Le.nil))))
theorem Ii cx j sc hold:∀e:List Arg,Le (wArgAnns (ev f) cx sc hold e) (wArgAnns (ev g) j sc hold e)|[]=>Le.tt|⟨_,u,_⟩::r=>Le.both (Sc cx j sc hold u) (Ii cx j sc hold r)
theorem Qc cx j sc hold:∀e:Option Arg,Le (wArgAnnO (ev f) cx sc hold e) (wArgAnnO (ev g) j sc hold e)|none=>Le.tt|some ⟨_,u,_⟩=>Sc cx j sc hold u
end
mutual
theorem mP cx j sc:∀p:Pattern,Le (wP (ev f) cx sc p) (wP (ev g) j sc p)|.MatchValue e _=>mE hfg cx j sc none e|.MatchSingleton .. =>Le.tt|.MatchSequence ps _=>uV cx j sc ps|.MatchOr ps _=>uV cx j sc ps|.MatchMapping H ps C pos=>Le.cons (Sb hfg cx j sc none H) (Le.cons (uV cx j sc ps) (Le.cons (F1 hfg ..) Le.nil))|.MatchClass c ps _ u _=>Le.cons (mE hfg cx j sc none c) (Le.cons (uV cx j sc ps) (Le.cons (uV cx j sc u) Le.nil))|.MatchStar n pos=>F1 hfg ..|.MatchAs p n pos=>Le.both (mPo cx j sc p) (F1 hfg ..)
theorem uV cx j sc:∀p:List Pattern,Le (wPs (ev f) cx sc p) (wPs (ev g) j sc p)|[]=>Le.tt|p::r=>Le.both (mP cx j sc p) (uV cx j sc r)
theorem mPo cx j sc:∀p:Option Pattern,Le (wPo (ev f) cx sc p) (wPo (ev g) j sc p)|none=>Le.tt|some p=>mP cx j sc p
end
theorem Vr ch u cls j pa:∀e o,Le (wLazy (ev f) ch cls pa e o) (wLazy (ev g) u j pa e o)|none,_=>Le.tt|some e,some C=>Le.both (B3 hfg ..) (mE hfg ..)|some _,none=>⟨nofun⟩
theorem mTP ch u cls j ts:∀t,Le (wTP (ev f) ch cls ts t) (wTP (ev g) u j ts t)|.TypeVar _ b d H C bind pos=>Le.cons (Bk hfg ..) (Le.cons (Vr hfg ..) (Le.cons (Vr hfg ..) Le.nil))|.ParamSpec _ d C bind pos=>Le.both (Bk hfg ..) (Vr hfg ..)|.TypeVarTuple _ d C bind pos=>Le.both (Bk hfg ..) (Vr hfg ..)
theorem qg ch u cls j ts (l:List TypeParam):Le (wTPs (ev f) ch cls ts l) (wTPs (ev g) u j ts l):=Le.allMap _ λZ Z=>mTP hfg ..
theorem bD cx j sc l:Le (wItems (ev f) cx sc l) (wItems (ev g) j sc l):=Le.allMap _ λi Z=>by
 show Le.both (mE hfg ..) ?_
 split
 · show mT hfg ..
 · show Le.tt
def Qd cx u sc args H ret (a:List TypeParam) j ts b pos J C:
 Le (wDefHead (ev f) cx sc args H ret a j ts b pos J) (wDefHead (ev g) u sc args H ret a j ts b pos C):=by
 unfold wDefHead;show Le.cons (Sb hfg ..) (Le.cons (NY hfg ..) (Le.cons (Bk hfg ..) (Le.cons (NX hfg ..) (Le.cons ?_ Le.nil))));cases a with
 |nil=>show Le.cons (B3 hfg ..) (Le.cons (nb hfg ..) (Le.cons (Sc hfg ..) Le.nil))
 |cons=>cases ts with
  |some=>
   show Le.cons (B3 hfg ..) (Le.cons (B3 hfg ..) (Le.cons (qg hfg ..) (Le.cons (nb hfg ..) (Le.cons (Sc hfg ..) (Le.cons (Bk hfg ..) (Le.cons ?_ Le.nil))))))
   split
   · show Le.tt
   · show Bk hfg ..
  |none=>show⟨nofun⟩
def Tg cx C sc j J N (a:List TypeParam) u ts b pos U H:
 Le (wClassHead (ev f) cx sc j J N a u ts b pos U) (wClassHead (ev g) C sc j J N a u ts b pos H):=by
 unfold wClassHead;show Le.cons (Sb hfg ..) (Le.cons (Bk hfg ..) (Le.cons ?_ Le.nil));cases a with
 |nil=>show Le.cons (B3 hfg ..) (Le.cons (Sb hfg ..) (Le.cons (zC hfg ..) Le.nil))
 |cons=>cases ts with|some=>show Le.cons (B3 hfg ..) (Le.cons (B3 hfg ..) (Le.cons (qg hfg ..) (Le.cons (Bk hfg ..) (Le.cons (Bk hfg ..) (Le.cons (hfg _ _) (Le.cons (Bk hfg ..) (Le.cons (Sb hfg ..) (Le.cons (zC hfg ..) Le.nil))))))))|none=>show⟨nofun⟩
mutual
theorem mS top cx j sc:∀s:Stmt,Le (wS (ev f) top cx sc s) (wS (ev g) top j sc s)
 |.Pass _=>Le.tt
 |.Break _=>Le.tt
 |.Continue _=>Le.tt
 |.Global ns pos=>Le.cons (Le.allMap _ λZ Z=>hfg _ _) (Le.cons ⟨λZ=>JV _⟩ (Le.cons (Le.allMap _ λZ Z=>hfg _ _) Le.nil))
 |.Nonlocal ns pos=>Le.both (Le.allMap _ λZ Z=>hfg _ _) ⟨λZ=>JV _⟩
 |.Import as _=>Le.allMap _ λZ Z=>Bk hfg ..
 |.ImportFrom _ as _ _=>by
   show Le.allMap _ λa Z=>?_
   split
   · show Le.tt
   · show Bk hfg ..
 |.Return v _=>Sc hfg ..
 |.Expr e _=>mE hfg ..
 |.Raise a b _=>Le.both (Sc hfg ..) (Sc hfg ..)
 |.Assert a b _=>Le.both (mE hfg ..) (Sc hfg ..)
 |.Assign ts v _=>Le.both (mE hfg ..) (vw hfg ..)
 |.AugAssign t _ v _=>Le.both (mT hfg ..) (mE hfg ..)
 |.Delete ts _=>vw hfg ..
 |.AnnAssign t a v J _=>by
   show Le.cons ?_ (Le.cons (mE hfg ..) Le.nil);cases v with
   |some e=>show Le.both (mE hfg ..) (mT hfg ..)
   |none=>cases t with
    |Name=>
     change Le (ite ..) (ite ..)
     split
     · show Le.tt
     · show Bk hfg ..
    |_=>show mT hfg ..
 |.If t b o _=>Le.cons (mE hfg ..) (Le.cons (J8 top cx j sc b) (Le.cons (J8 top cx j sc o) Le.nil))
 |.While t b o _=>Le.cons (mE hfg ..) (Le.cons (J8 top cx j sc b) (Le.cons (J8 top cx j sc o) Le.nil))
 |.For t i b o _=>Le.cons (mE hfg ..) (Le.cons (mT hfg ..) (Le.cons (J8 top cx j sc b) (Le.cons (J8 top cx j sc o) Le.nil)))
 |.AsyncFor t i b o _=>Le.cons (mE hfg ..) (Le.cons (mT hfg ..) (Le.cons (J8 top cx j sc b) (Le.cons (J8 top cx j sc o) Le.nil)))
 |.With items b _=>Le.both (bD hfg ..) (J8 top cx j sc b)
 |.AsyncWith items b _=>Le.both (bD hfg ..) (J8 top cx j sc b)
 |.Match H cases _=>Le.both (mE hfg ..) (mCs top cx j sc cases)
 |.Try b N o h _=>Le.cons (J8 top cx j sc b) (Le.cons (zf top cx j sc N) (Le.cons (J8 top cx j sc o) (Le.cons (J8 top cx j sc h) Le.nil)))
 |.TryStar b N o h _=>Le.cons (J8 top cx j sc b) (Le.cons (zf top cx j sc N) (Le.cons (J8 top cx j sc o) (Le.cons (J8 top cx j sc h) Le.nil)))
 |.FunctionDef _ args body Y ret C u ts b pos=>Le.both (Qd hfg ..) (J8 top _ _ u body)
 |.AsyncFunctionDef _ args body Y ret C u ts b pos=>Le.both (Qd hfg ..) (J8 top _ _ u body)
 |.ClassDef _ U ks body Y C u ts b _ pos=>Le.both (Tg hfg ..) (J8 top _ _ u body)
 |.TypeAlias _ C v u ts b pos=>by
   show Le.cons (Bk hfg ..) (Le.cons (mE hfg ..) (Le.cons ?_ Le.nil));cases C with
   |nil=>show B3 hfg ..
   |cons=>cases ts with|some=>show Le.cons (B3 hfg ..) (Le.cons (B3 hfg ..) (Le.cons (qg hfg ..) Le.nil))|none=>show⟨nofun⟩
theorem J8 top cx j sc:∀s:List Stmt,Le (wSs (ev f) top cx sc s) (wSs (ev g) top j sc s)|[]=>Le.tt|s::r=>Le.both (mS top cx j sc s) (J8 top cx j sc r)
theorem zf top cx j sc:∀s:List ExceptHandler,Le (wHs (ev f) top cx sc s) (wHs (ev g) top j sc s)|[]=>Le.tt|.ExceptHandler t n b pos::r=>Le.cons (Sc hfg ..) (Le.cons (F1 hfg ..) (Le.cons (J8 top cx j sc b) (Le.cons (zf top cx j sc r) Le.nil)))
theorem mCs top cx j sc:∀s:List MatchCase,Le (wCs (ev f) top cx sc s) (wCs (ev g) top j sc s)|[]=>Le.tt|⟨p,w,b⟩::r=>Le.cons (mP hfg ..) (Le.cons (Sc hfg ..) (Le.cons (J8 top cx j sc b) (Le.cons (mCs top cx j sc r) Le.nil)))
end
end
theorem IF A top cx sc:∀a b:List Stmt,wSs (ev A) top cx sc (a++b)=(wSs (ev A) top cx sc a&&wSs (ev A) top cx sc b)|[],b=>rfl|s::r,b=>(congrArg (wS (ev A) top cx sc s&& ·) (IF A top cx sc r b)).trans (pe ..).symm
def Vs (h:wSs (ev f) m.scope cx m.scope m.body=true):wModule (ev f) m=true:=by
 unfold wModule;change (true&&(true&&(_&&true)))=true;rw[mu,mu,jL];show(J8 (λZ Z=>Le.refl) _ _ _ _ _).go h
end
section
open PySem PySem.W PyProof.Rows
open TablesWhole
open PySem.Challenge
theorem Ok:instDecidableEqStr=Fast.sDec:=Subsingleton.elim _ _
def fq (a:List Str)(sc:Scope)(n:Str):Bool:=
 (match @List.lookup Str NameKind (@instBEqOfDecidableEq Str Fast.sDec) n sc.names with
   |some .globalImplicit|some .globalExplicit=> @List.contains Str (@instBEqOfDecidableEq Str Fast.sDec) (Fast.tw18344453789297297638 pw_nz0036_01) n|| @BEq.beq Str (@instBEqOfDecidableEq Str Fast.sDec) n "__name__"|| @BEq.beq Str (@instBEqOfDecidableEq Str Fast.sDec) n "__debug__"||(Fast.qNamed n&&!@List.contains Str (@instBEqOfDecidableEq Str Fast.sDec) worldNames n&&!n.opensWith "__")
   |_=>true)&&Fast.tw17868728402115742887 n&&!(@List.contains Str (@instBEqOfDecidableEq Str Fast.sDec) ["vars","dir","locals"] n)&&!(@List.contains Str (@instBEqOfDecidableEq Str Fast.sDec) a n)
theorem Qe j sc n:fq j sc n=((match sc.names.lookup n with
 |some .globalImplicit|some .globalExplicit=>pw_nz0036_01.boundNames.contains n||n==("__name__":Str)||n==("__debug__":Str)||(builtinNamed n&&!worldNames.contains n&&!n.opensWith "__")
 |_=>true)&&attrL n&&!((["vars","dir","locals"]:List Str).contains n)&&!(j.contains n)):=by
 unfold fq;rw[<-Fast.te18344453789297297638,<-Fast.te17868728402115742887,<-Fast.named_eq,<-Ok]
def jb:TablesWhole.Ctx:=⟨pw_nz0036_01.main.scope,[],[],[],none⟩
def Do:List Stmt:=pw_nz0036_01.main.body.take 146
def jc:=pw_nz0036_01.main.body.drop 146
def EN (a:List Str)(l:List Stmt):Bool:=Fast.tw16421684217811934046 (ev (fq a)) pw_nz0036_01.main.scope jb pw_nz0036_01.main.scope l
def Fh j l:EN j l=wSs (ev (fq j)) pw_nz0036_01.main.scope jb pw_nz0036_01.main.scope l:=by
 unfold EN;rw[<-Fast.te16421684217811934046]
def Ca {a:List Str}{l:List Stmt} i k (h:EN a ((l.drop i).take k))(r:EN a (l.drop (i+k))):EN a (l.drop i):=by
 rw[<-uI k (l.drop i),Fh,IF,List.drop_drop,<-Fh,<-Fh,h,r];rfl
abbrev EF:List Str:=["law","_law_due","_law_keeps","_law_told","_law_dip"]
def qh:rw_nz0036_01.own=EF:=∅
def c0:EN EF ((Do.drop 0).take 20):=∅
def c20:EN EF ((Do.drop 20).take 20):=∅
def c40:EN EF ((Do.drop 40).take 20):=∅
def c60:EN EF ((Do.drop 60).take 20):=∅
def c80:EN EF ((Do.drop 80).take 20):=∅
def zg:EN EF ((Do.drop 100).take 20):=∅
def zh:EN EF ((Do.drop 120).take 20):=∅
def zi:EN EF ((Do.drop 140).take 6):=∅
def zj:EN EF (Do.drop 146):=∅
def vz:EN [] jc:=∅
theorem v7:EN EF Do:=(Ca 0 20 c0 (Ca 20 20 c20 (Ca 40 20 c40 (Ca 60 20 c60 (Ca 80 20 c80 (Ca 100 20 zg (Ca 120 20 zh (Ca 140 6 zi zj))))))))
def Ep (l:List Stmt):=Fast.tw8326940854005059898 {strict:=false,foot:=none} l
def Ij l:Ep l=noRoadLSs {strict:=false,foot:=none} l:=by
 unfold Ep;rw[<-Fast.te8326940854005059898]
theorem Hr lk:∀a b:List Stmt,noRoadLSs lk (a++b)=(noRoadLSs lk a&&noRoadLSs lk b)|[],b=>rfl|s::r,b=>(congrArg (noRoadLS lk s&& ·) (Hr lk r b)).trans (pe ..).symm
def Cb {l:List Stmt} i k (h:Ep ((l.drop i).take k))(r:Ep (l.drop (i+k))):Ep (l.drop i):=by
 rw[<-uI k (l.drop i),Ij,Hr,List.drop_drop,<-Ij,<-Ij,h,r];rfl
def r0:Ep ((pw_nz0036_01.main.body.drop 0).take 20):=∅
def r20:Ep ((pw_nz0036_01.main.body.drop 20).take 20):=∅
def r40:Ep ((pw_nz0036_01.main.body.drop 40).take 20):=∅
def r60:Ep ((pw_nz0036_01.main.body.drop 60).take 20):=∅
def r80:Ep ((pw_nz0036_01.main.body.drop 80).take 20):=∅
def zk:Ep ((pw_nz0036_01.main.body.drop 100).take 20):=∅
def zl:Ep ((pw_nz0036_01.main.body.drop 120).take 20):=∅
def zm:Ep ((pw_nz0036_01.main.body.drop 140).take 20):=∅
def zn:Ep (pw_nz0036_01.main.body.drop 160):=∅
theorem jd:Ep pw_nz0036_01.main.body:=(Cb 0 20 r0 (Cb 20 20 r20 (Cb 40 20 r40 (Cb 60 20 r60 (Cb 80 20 r80 (Cb 100 20 zk (Cb 120 20 zl (Cb 140 20 zm zn))))))))
def bE:pw_nz0036_01.main.body.length=151:=∅
def bF:rw_nz0036_01.above=Do:=by
 change List.take (pw_nz0036_01.main.body.length-5) pw_nz0036_01.main.body=_;rw[bE];rfl
def Xh:namesMeet pw_nz0036_01 Do (λZ n=>!EF.contains n):=by
 have h:=(Fh _ _).symm.trans v7;show Vs (m:={pw_nz0036_01.main with body:=Do}) (cx:=jb) ((J8 (λsc n=>?_) _ _ _ _ _).go h);show⟨λx=>?_⟩;rw[Qe,DQ] at x;show x.2
def bG:wSs (ev (fq [])) pw_nz0036_01.main.scope jb pw_nz0036_01.main.scope pw_nz0036_01.main.body=true:=by
 rw[<-uI 146 pw_nz0036_01.main.body,IF];show DQ.mpr ⟨?_,(Fh _ _).symm.trans vz⟩;show(J8 (λsc n=>?_) _ _ _ _ _).go ((Fh _ _).symm.trans v7);show⟨λx=>?_⟩;rw[Qe,DQ] at x ⊢;show⟨x.1,rfl⟩
theorem Ol {g}(h:∀sc n,fq [] sc n->g sc n):wModule (ev g) pw_nz0036_01.main=true:=
 Vs (cx:=jb) ((J8 (λsc n=>⟨h sc n⟩) _ _ _ _ _).go bG)
def bH:namesResolve pw_nz0036_01:=by
 show Ol λsc n x=>?_;rw[Qe,DQ,DQ,DQ] at x;show x.1.1.1
def v8:namesMeet pw_nz0036_01 pw_nz0036_01.main.body (λZ n=>attrL n):=by
 show Ol λsc n x=>?_;rw[Qe,DQ,DQ,DQ] at x;show x.1.1.2
def je m (hm:(["vars","dir","locals"]:List Str).contains m):readsOut pw_nz0036_01 pw_nz0036_01.main.body m=false:=by
 have:namesMeet pw_nz0036_01 pw_nz0036_01.main.body (λsc x=>x !=m||!(sc.names.lookup x==some .globalImplicit||sc.names.lookup x==some .globalExplicit)):=by
  show Ol λsc n x=>?_;rw[Qe,DQ,DQ] at x;show Bool.or_eq_true_iff.mpr (.inl ?_);rw[bne_iff_ne]
  rintro rfl
  rw[hm] at x;show absurd x.1.2 ∅
 unfold readsOut;rw[this];rfl
def v9:(["vars","dir","locals"]:List Str).filter (readsOut pw_nz0036_01 pw_nz0036_01.main.body)=[]:=by
 rw[pi];intro m hm;rw[je m (List.elem_eq_true_of_mem hm)];show mw
def qi:looksOpen pw_nz0036_01:=by
 unfold looksOpen;show Gc (Gc (Gc (Gc (Gc ?_ ?_) bH) ?_) ?_) v8
 · rw[Fast.te11788848310118352699];kernel_rfl
 · kernel_rfl
 · kernel_rfl
 · rw[v9];have h:(!(importedModules pw_nz0036_01.main.body).all cThrough.contains)=false:=∅
   rw[h];show(Ij _).symm.trans jd
def part:rw_nz0036_01.row.partSaid:=by
 unfold OpenRow.partSaid;show Gc (Gc (Gc (Gc (Gc (Gc (Gc (Gc (Gc (Gc (Gc (Gc (Gc qi ?_) ?_) ?_) ?_) ?_) ?_) ?_) ?_) ?_) ?_) ?_) ?_) ?_
 all_goals kernel_rfl
def jf:rw_nz0036_01.row.wellSaid:=by
 unfold OpenRow.wellSaid;show Gc (Gc part ?_) ?_
 · kernel_rfl
 · kernel_rfl
def zo:decide (rw_nz0036_01.foot<=(behindTheImports rw_nz0036_01.prog).length):=∅
def zp:rw_nz0036_01.footing.all footLine:=by rw[PySem.W.Fast.te10501279942588096481];kernel_rfl
def zq:noClassBlock rw_nz0036_01.prog rw_nz0036_01.footing:=by rw[PySem.W.Fast.te8179353310426384613];kernel_rfl
def zr:Option.all (λn=>decide (63<=n)) rw_nz0036_01.most:=∅
def zt:Option.all (λn=>decide (2 ^ 63<=n)) rw_nz0036_01.bound:=∅
def zu:noRoadLSs {strict:=true,foot:=some rw_nz0036_01.bound',writes:=rw_nz0036_01.writes,may:=rw_nz0036_01.may} rw_nz0036_01.footing:=by rw[PySem.W.Fast.te8326940854005059898];kernel_rfl
def zv:defStands rw_nz0036_01.about rw_nz0036_01.above:=by rw[PySem.W.Fast.te9558739934217749035];kernel_rfl
def zw:rw_nz0036_01.namesIt:=by rw[PySem.W.Fast.te16286561074155671207];kernel_rfl
def wA:((["type","isinstance","issubclass","getattr","hasattr"]:List Str).all λn=>rw_nz0036_01.about !=[n]):=∅
def wB:(rw_nz0036_01.bound'.all λn=>!builtinNamed n||rw_nz0036_01.about==[n]||!rw_nz0036_01.reads n):=by rw[PySem.W.Fast.named_eq];kernel_rfl
def wC:(!rw_nz0036_01.writes||(List.flatMap importedNames rw_nz0036_01.prog.main.body).all λn=>!rw_nz0036_01.reads n):=∅
def wD:((List.flatMap importedNames rw_nz0036_01.prog.main.body).all λn=>!rw_nz0036_01.reads n||(drawsOf n rw_nz0036_01.prog.main.body).all λa=>a.snd !=("attrgetter":Str)&&a.snd !=("methodcaller":Str)):=∅
def wG:(namesMeet rw_nz0036_01.prog rw_nz0036_01.footing λsc n=>(!(["type","isinstance","issubclass","getattr","hasattr"]:List Str).contains n||List.lookup n sc.names==some NameKind.globalImplicit)&&(rw_nz0036_01.may !=some n||sc.kind==ScopeKind.module||List.lookup n sc.names==some NameKind.globalImplicit)):=by rw[PySem.W.Fast.te17119622794617984870];kernel_rfl
def wH:rw_nz0036_01.own.contains rw_nz0036_01.name:=∅
def wI:(rw_nz0036_01.own.eraseDups.length==rw_nz0036_01.own.length):=∅
def wJ:(rw_nz0036_01.own.all λn=>!builtinNamed n):=by rw[PySem.W.Fast.named_eq];kernel_rfl
def wK:(namesMeet rw_nz0036_01.prog rw_nz0036_01.footing λsc n=>sc.kind==ScopeKind.module||List.lookup n sc.names !=some NameKind.globalExplicit):=by rw[PySem.W.Fast.te17119622794617984870];kernel_rfl
def wL:(namesMeet rw_nz0036_01.prog rw_nz0036_01.above λx n=>!rw_nz0036_01.own.contains n):=by
 rw[bF,qh];show Xh
def zx:rw_nz0036_01.wellSaid:=by
 unfold OpenLaw.wellSaid;show(Gc (Gc (Gc (Gc (Gc (Gc (Gc (Gc (Gc (Gc (Gc (Gc (Gc (Gc (Gc (Gc (Gc (Gc jf zo) zp) zq) zr) zt) zu) zv) zw) wA) wB) wC) wD) wG) wH) wI) wJ) wL) wK)
def Th:Alg Bool:=⟨λsc n Z=>(@List.lookup Str NameKind (@instBEqOfDecidableEq Str Fast.sDec) n sc.names).isSome,λZ Z Z ok=>ok,λZ=>true,true,false,λa b=>a&&b⟩
def Xi:Th=holds:=by
 unfold Th holds Scope.bears;rw[<-Ok]
theorem JW {α:Type}(A:Alg α)(c:∀x,A.both A.unit x=x)(d:∀x y z,A.both (A.both x y) z=A.both x (A.both y z)) top cx sc:∀a b:List Stmt,wSs A top cx sc (a++b)=A.both (wSs A top cx sc a) (wSs A top cx sc b)
 |[],b=>by
   rw[List.nil_append,show wSs A top cx sc []=A.unit from rfl,c]
 |s::a,b=>by
  rw[List.cons_append,show wSs A top cx sc (s::(a++b))=A.both (wS A top cx sc s) (wSs A top cx sc (a++b)) from rfl,JW A c d top cx sc a b,show wSs A top cx sc (s::a)=A.both (wS A top cx sc s) (wSs A top cx sc a) from rfl,d]
abbrev JR:=pw_nz0036_01.main.body
def hk (l:List Stmt):Bool:=Fast.tw16421684217811934046 Th pw_nz0036_01.main.scope jb pw_nz0036_01.main.scope l
def Vt l:hk l=wSs holds pw_nz0036_01.main.scope jb pw_nz0036_01.main.scope l:=by
 unfold hk;rw[<-Fast.te16421684217811934046,Xi]
def D4 i k (h:hk ((JR.drop i).take k))(r:hk (JR.drop (i+k))):hk (JR.drop i):=by
 rw[<-uI k (JR.drop i),Vt,JW holds (λZ=>mu _) λZ Z Z=>pe _ _ _,List.drop_drop,<-Vt,<-Vt,h,r];rfl
def gk (l:List Stmt):=Fast.tw16421684217811934046 gather pw_nz0036_01.main.scope jb pw_nz0036_01.main.scope l
def Vu l:gk l=wSs gather pw_nz0036_01.main.scope jb pw_nz0036_01.main.scope l:=by
 unfold gk;rw[<-Fast.te16421684217811934046]
def D5 i k (h:gk ((JR.drop i).take k)=[])(r:gk (JR.drop (i+k))=[]):gk (JR.drop i)=[]:=by
 rw[<-uI k (JR.drop i),Vu,JW gather (λZ=>List.nil_append _) λZ Z Z=>pj _ _ _,List.drop_drop,<-Vu,<-Vu,h,r];rfl
def hk0:hk ((JR.drop 0).take 20):=∅
def zy:hk ((JR.drop 20).take 20):=∅
def z6:hk ((JR.drop 40).take 20):=∅
def z7:hk ((JR.drop 60).take 20):=∅
def z8:hk ((JR.drop 80).take 20):=∅
def wM:hk ((JR.drop 100).take 20):=∅
def wO:hk ((JR.drop 120).take 20):=∅
def wQ:hk ((JR.drop 140).take 20):=∅
def hkE:hk (JR.drop 160):=∅
theorem wR:hk JR:=(D4 0 20 hk0 (D4 20 20 zy (D4 40 20 z6 (D4 60 20 z7 (D4 80 20 z8 (D4 100 20 wM (D4 120 20 wO (D4 140 20 wQ hkE))))))))
def gk0:gk ((JR.drop 0).take 20)=[]:=∅
def z9:gk ((JR.drop 20).take 20)=[]:=∅
def AAA:gk ((JR.drop 40).take 20)=[]:=∅
def AAB:gk ((JR.drop 60).take 20)=[]:=∅
def AAC:gk ((JR.drop 80).take 20)=[]:=∅
def wU:gk ((JR.drop 100).take 20)=[]:=∅
def wV:gk ((JR.drop 120).take 20)=[]:=∅
def wW:gk ((JR.drop 140).take 20)=[]:=∅
def gkE:gk (JR.drop 160)=[]:=∅
theorem wX:gk JR=[]:=(D5 0 20 gk0 (D5 20 20 z9 (D5 40 20 AAA (D5 60 20 AAB (D5 80 20 AAC (D5 100 20 wU (D5 120 20 wV (D5 140 20 wW gkE))))))))
def jg {m}(g:wSs gather m.scope ⟨m.scope,[],[],[],none⟩ m.scope m.body=[])(n:noTwice m.scope=true)(h:wSs holds m.scope ⟨m.scope,[],[],[],none⟩ m.scope m.body=true):wModule holds m=true:=by
 unfold wModule;simp only[g];change (true&&(noTwice m.scope&&(wSs holds m.scope ⟨m.scope,[],[],[],none⟩ m.scope m.body&&true)))=true;rw[n,h];rfl
def jh {p:Program}(h:wModule holds p.main=true)(h1:p.modules=[])(a:p.parses=[])(h3:p.harvested=[]):p.tablesWhole=true:=by
 unfold Program.tablesWhole wProgram;rw[h1,a,h3,h];rfl
def bI:noTwice pw_nz0036_01.main.scope:=by
 unfold noTwice;rw[Ok]
 kernel_rfl
def wY:pw_nz0036_01.modules=[]:=∅
def wZ:pw_nz0036_01.parses=[]:=∅
def wa:pw_nz0036_01.harvested=[]:=∅
theorem wb:pw_nz0036_01.tablesWhole:=jh (jg ((Vu _).symm.trans wX) bI ((Vt _).symm.trans wR)) wY wZ wa
theorem wc:pw_nz0036_01.bare:=⟨wY,wZ,∅,wa,∅,wb⟩
def AAD:(opening pw_nz0036_01).tameTopW:=∅
def NZ:behindTheImports pw_nz0036_01=pw_nz0036_01.main.body:=∅
def ql:(!bearImports pw_nz0036_01.main.body):=∅
def opw:opensWell pw_nz0036_01:=by
 unfold opensWell;rw[AAD,NZ,ql];rfl
end
section
open PySem PySem.W PyProof.Rows
def Qf (w:World)(os:OsState):Shared:=⟨boot_heap w.params,Array.mk [],boot_drawn,boot_toks,os⟩
abbrev Xj (w:World)(os:OsState):Option (Shared×Thread):=topGo treeTable pw w 11 (some (.ref 6)) 12 (Qf w os) (topStub pw)
def pre1 w os:(Xj w os).map (λx=>(x.1.heap.objs.size,x.1.gens,x.1.drawn,x.1.toks))=some (15,#[],{},187):=∅
def pre2 w os:(Xj w os).map (λx=>(x.1.heap.life,x.1.os))=some (Gf w.params,os):=∅
def AAE w os:(Xj w os).map (λx=>(aj w.params).map λa=>x.1.heap.objs[a.1]?)=some ((aj w.params).map λa=>some a.2):=∅
def AAF w os:(Xj w os).map (λx=>(x.2.pos,x.2.stack))=some (La,[topFrame La]):=∅
def AAG w os:(Xj w os).map (λx=>x.2.code)=some Eo:=∅
def AAH w os:(Xj w os).map (λx=>x.2.cur)=some (denote treeTable Eo):=∅
def bJ h {n}(hn:h.objs.size=n):heapOf (λa=>h.objs[a]?) n h.life=h:=by
 obtain⟨o,l⟩:=h;change Heap.mk _ l=Heap.mk o l;show congrArg (Heap.mk · l) ?_;apply Array.ext_getElem?;intro i;change (heapOf _ n l).objs[i]?=_;rw[EY]
 by_cases hi:i<n
 · rw[if_pos hi];have:i<o.size:=hn▸hi;change some ((o[i]?).getD default)=_;rw[Array.getElem?_eq_getElem this];rfl
 · rw[if_neg hi,Array.getElem?_eq_none (by have:o.size=n:=hn;lia)]
def blk (w:World)(os:OsState)(s:Shared):segRun treeTable pw w 11 (some (.ref 6)) 1 1 s (blockOf pw.main.body QZ Eo La [topFrame La])=some (.next,s,Eo,La):=∅
def wd (w:World)(os:OsState):∃r,topRun treeTable pw w 11 (some (.ref 6)) (12+(1+23286)) (Qf w os) (topStub pw)=some r/\Fg w os r:=by
 obtain⟨⟨⟨h,n,d,k,b⟩,⟨o,co,p,q⟩⟩,e,e1⟩:=XX.mp (pre1 w os);have f:=pre2 w os;have l:=AAE w os;have g:=AAF w os;have i:=AAG w os;have j:=AAH w os;rw[e] at f l g i j;simp only[Option.map_some,Option.some.injEq,Prod.mk.injEq] at e1 f g i j;obtain⟨e1,rfl,rfl,rfl⟩:=e1;obtain⟨f,rfl⟩:=f;obtain⟨rfl,rfl⟩:=g;subst i j;have I:bC aj jS 15 187 w.params b ⟨h,#[],{},187,b⟩:=by
  show⟨λa=>h.objs[a]?,?_,λx hx=>List.map_inj_left.mp (M1 l) x hx,λc hc=>by cases hc⟩;rw[<-f,bJ h e1]
 obtain⟨r,h1,m⟩:=vt w b _ I;show⟨r,go_top e ?_,m⟩;have hb:Eo=.body pw.main.body QZ:=by unfold Eo;rw[NZ]
 change topRun treeTable pw w 11 (some (.ref 6)) (1+23286) _ ⟨denote treeTable Eo,Eo,La,[topFrame La]⟩=some r;have hd:denote treeTable Eo=denote treeTable (.body pw.main.body QZ):=congrArg _ hb;show(hd)▸?_;show piece_block (blk w b _) h1
abbrev H1 (P:Params)(G:Nat->Option Obj):=heapOf (Ge (Gd P) G) 3127 (Gf P)
def qv:={pw with main:={pw.main with body:=[]}}
def AAI:importedModules pw.main.body=[]:=∅
def we P G:staticsOk [] (boot_heap P) (H1 P G)=true:=∅
def wf P G:laidKept (boot_heap P) (H1 P G)=true:=∅
def qs:={pw with main:={pw.main with body:=[.Import [⟨"sys",none,⟨0,0,0,0⟩⟩] ⟨0,0,0,0⟩]}}
def wg:=startupNames++pw.boundNames
abbrev S1 (P:Params)(G:Nat->Option Obj)(os:OsState):Shared:=⟨H1 P G,#[],{},4555,os⟩
def wh P G os:openSeen qs wg [] (λZ=>true) true (S1 P G os)=openGood qs wg:=∅
def wi:chainsOk qs=true:=∅
def wj P G:namesBound pw (H1 P G):=∅
structure Known (P:Params) (h:Heap):Prop where
 hot:∀x∈Gd P,h.get? x.1=some x.2
 cod:∀c∈NW,∃o,h.get? c.1=some o/\JU c.2 o
 sys:h.get? sysModules=some (boot_o_1 P)
theorem Known.keeps {P}{h h'}(x:Known P h)(k:∀b o,h.get? b=some o->h'.get? b=some o):Known P h':=
 ⟨λp hp=>k _ _ (x.hot p hp),λc hc=>let ⟨o,e,i⟩:=x.cod c hc;⟨o,k _ _ e,i⟩,k _ _ x.sys⟩
def Xk (s:Shared):= @decide (∃P,Known P s.heap) (Classical.propDecidable _)
def Vv (o:Obj):Bool:=match o.data with|.freed=>false|_=>true
def Qg {o}(h:Vv o):alive o=some o:=by
 obtain⟨c,d,a,b⟩:=o;cases a<;>first|rfl|cases h
def qm P:((Gd P).all λx=>Nat.blt x.1 3127&&Vv x.2):=∅
def qr:(NW.all λx=>Nat.blt x.1 3127):=∅
def qt {P}{G}{l}(hg:∀x∈Gd P,G x.1=some x.2)(hk:∀c∈NW,∃o,G c.1=some o/\JU c.2 o)(a:(heapOf G 3127 l).get? sysModules=some (boot_o_1 P)):Known P (heapOf G 3127 l):=by
 show⟨λx hx=>?_,λc hc=>?_,a⟩
 · obtain⟨q1,b⟩:=DQ.mp (QL.mp (qm P) x hx);rw[Em (Gu.mp q1) (hg x hx),Qg b]
 · obtain⟨o,e,i⟩:=hk c hc;show⟨o,?_,i⟩;rw[Em (Gu.mp (QL.mp qr c hc)) e,Qg];obtain⟨cl,d,f,g⟩:=o;cases f<;>first|rfl|cases i
def wk:opening pw=plainProg pw.main.scope.names:=∅
def qu s:fenceModules? pw s=some s:=∅
def wm (w:World):(((boot_heap w.params).isNs mainGlobals&&(Array.mk ([]:List GenState)).size==0),(boot_heap w.params).objs.size,(boot_heap w.params).nsMap mainGlobals "__annotations__")=(true,11,some (.ref 6)):=∅
def ji {q}{j ms}{X}{s}(h:X s)(e:openSeen q j ms (λZ=>true) true s=openGood q j):openSeen q j ms X true s=openGood q j:=by
 rw[<-e];unfold openSeen;rw[h]
theorem jj {p q:Program}{c:List Str}{m:Shared->Bool}{N M:Nat}{a:Params->Heap}{b:Array GenState}{f:Drawn}{g i:Nat}{l:Option Value}
 (j:∀w:World,(fencedOpening treeTable p w N).map (λs=>(s.heap,s.gens,s.drawn,s.toks))=some (a w.params,b,f,g))
 (size:∀w:World,((a w.params).isNs mainGlobals&&b.size==0,(a w.params).objs.size,(a w.params).nsMap mainGlobals "__annotations__")=(true,i,l))
 (run:∀(w:World) (os:OsState),∃s₁,topRun treeTable p w i l M ⟨a w.params,b,f,g,os⟩ (topStub p)=some s₁/\
   (staticsOk (importedModules p.main.body) (a w.params) s₁.heap&&namesBound p s₁.heap&&gensDone s₁&&laidKept (a w.params) s₁.heap)/\openSeen q c (importedModules p.main.body) m true s₁=openGood q c)
 (le:Nat.ble M N):LeftO p q c m (λZ=>()) (λZ=>()) N:=λw=>by
 obtain⟨⟨h,n,d,k,os⟩,e,o⟩:=XX.mp (j w);obtain⟨rfl,rfl,rfl,rfl⟩:h=a w.params/\n=b/\d=f/\k=g:=by simpa using o
 obtain⟨u,v,x⟩:_/\_/\_:=by simpa only[Prod.mk.injEq] using size w
 obtain⟨s₁,r,l1,l2⟩:=run w os;have r:=topRun_mono (N-M) _ _ _ _ r;rw[show M+(N-M)=N by show uf (DF le)] at r;have t:topFrom treeTable p w N ⟨a w.params,n,d,k,os⟩=some s₁:=by
  unfold topFrom;dsimp only;rw[u,v,x,r];change (match staticsOk (importedModules p.main.body) (a w.params) s₁.heap&&namesBound p s₁.heap&&gensDone s₁&&laidKept (a w.params) s₁.heap with|true=>_|false=>_)=_;rw[l1]
 unfold openEnds;rw[e];change (topFrom treeTable p w N _).map _=_;rw[t];show congrArg some (Prod.ext l2 rfl)
theorem wp {s}{P}(h:Known P s.heap):Xk s:= @Fy _ (Classical.propDecidable _) ⟨P,h⟩
theorem wq {s}(h:Xk s):∃P,Known P s.heap:= @AAL _ (Classical.propDecidable _) h
def jk w os:(Qf w os).heap.get? sysModules=some (boot_o_1 w.params):=∅
def wr w os:∃s₁,topRun treeTable pw w 11 (some (.ref 6)) (12+(1+23286)) (Qf w os) (topStub pw)=some s₁/\
 (staticsOk [] (boot_heap w.params) s₁.heap&&namesBound pw s₁.heap&&gensDone s₁&&laidKept (boot_heap w.params) s₁.heap)/\openSeen qs wg [] Xk true s₁=openGood qs wg:=by
 obtain⟨s₁,r,⟨G,rfl,hg,hk⟩⟩:=wd w os;have d:H1 w.params G=heapOf G 3127 (Gf w.params):=congrArg (λg=>heapOf g 3127 (Gf w.params)) (ID hg);have c1:=we w.params G;have b:=wj w.params G;have c:=wf w.params G;have a:=wh w.params G os;unfold S1 at a;rw[d] at c1 b c a;have f:gensDone ⟨heapOf G 3127 (Gf w.params),#[],{},4555,os⟩:=rfl;have h:(heapOf G 3127 (Gf w.params)).get? sysModules=some (boot_o_1 w.params):=by
  have r':=r;rw[<-table_eq_tree] at r';show(topRun_spec _ (Qf w os) _ _ ⟨rfl,rfl⟩ r').2.2.2 sysModules _ ∅ ∅ ∅ ∅ (jk w os)
 show⟨_,r,?_,ji (wp (qt hg hk h)) a⟩;rw[c1,b,c,f];rfl
theorem wu:LeftO pw qs wg Xk (λZ=>()) (λZ=>()) 24000:=jj (boot_open wk (N:=24000) rfl qu) wm (λw os=>by rw[AAI];show wr w os) rfl
end
section
open PySem PySem.W PySem.Spec PySem.Calls PyProof.Rows
theorem Om {a:Sort _}{b:Sort _}{c:a->Prop}{d:a->Prop}{f:a->b->Prop}{G:Prop}(h:∃a0,c a0/\d a0/\∃a1,f a0 a1)(k:∀a0,c a0->d a0->∀a1,f a0 a1->G):G:=h.elim λa0 h0=>h0.2.2.elim λa1 h1=>k a0 h0.1 h0.2.1 a1 h1
theorem jl {a:Sort _}{b:Sort _}{c:Prop}{d:a->b->Prop}{f:a->b->Prop}{g:a->b->Prop}{G:Prop}(h:c/\∃a0,∃a1,d a0 a1/\f a0 a1/\g a0 a1)(k:c->∀a0,∀a1,d a0 a1->f a0 a1->g a0 a1->G):G:=h.2.elim λa0 h0=>h0.elim λa1 h1=>k h.1 a0 a1 h1.1 h1.2.1 h1.2.2
theorem bK {a:Sort _}{d:Sort _}{f:Sort _}{g:Sort _}{i:a->Prop}{j:a->d->f->g->Prop}{l:a->d->f->g->Prop}{G:Prop}(h:∃a0,i a0/\∃a1,∃b,∃c,j a0 a1 b c/\l a0 a1 b c)(k:∀a0,i a0->∀a1,∀b,∀c,j a0 a1 b c->l a0 a1 b c->G):G:=h.elim λa0 h0=>h0.2.elim λa1 h1=>h1.elim λb m=>m.elim λc h3=>k a0 h0.1 a1 b c h3.1 h3.2
theorem F2 {a:Sort _}{b:Sort _}{f:Sort _}{g:Sort _}{i:a->b->Prop}{j:a->b->Prop}{l:a->b->f->g->Prop}{m:a->b->f->g->Prop}{n:a->b->f->g->Prop}{G:Prop}(h:∃a0,∃a1,i a0 a1/\j a0 a1/\∃c,∃d,l a0 a1 c d/\m a0 a1 c d/\n a0 a1 c d)(k:∀a0,∀a1,i a0 a1->j a0 a1->∀c,∀d,l a0 a1 c d->m a0 a1 c d->n a0 a1 c d->G):G:=h.elim λa0 h0=>h0.elim λa1 h1=>h1.2.2.elim λc o=>o.elim λd h3=>k a0 a1 h1.1 h1.2.1 c d h3.1 h3.2.1 h3.2.2
theorem zD {a:Sort _}{b:Sort _}{c:a->Prop}{d:a->b->Prop}{f:a->b->Prop}{g:a->b->Prop}{G:Prop}(h:∃a0,c a0/\∃a1,d a0 a1/\f a0 a1/\g a0 a1)(k:∀a0,c a0->∀a1,d a0 a1->f a0 a1->g a0 a1->G):G:=h.elim λa0 h0=>h0.2.elim λa1 h1=>k a0 h0.1 a1 h1.1 h1.2.1 h1.2.2
theorem Lc {a:Sort _}{b:Sort _}{f:Sort _}{g:Sort _}{l:Sort _}{m:Sort _}{o:a->b->Prop}{p:a->b->Prop}{q:a->b->f->g->Prop}{r:a->b->f->g->Prop}{s:a->b->f->g->l->m->Prop}{t:a->b->f->g->l->m->Prop}{p6:a->b->f->g->l->m->Prop}{G:Prop}(h:∃a0,∃a1,o a0 a1/\p a0 a1/\∃c,∃d,q a0 a1 c d/\r a0 a1 c d/\∃i,∃j,s a0 a1 c d i j/\t a0 a1 c d i j/\p6 a0 a1 c d i j)(k:∀a0,∀a1,o a0 a1->p a0 a1->∀c,∀d,q a0 a1 c d->r a0 a1 c d->∀i,∀j,s a0 a1 c d i j->t a0 a1 c d i j->p6 a0 a1 c d i j->G):G:=h.elim λa0 h0=>h0.elim λa1 h1=>h1.2.2.elim λc u=>u.elim λd h3=>h3.2.2.elim λi v=>v.elim λj n=>k a0 a1 h1.1 h1.2.1 c d h3.1 h3.2.1 i j n.1 n.2.1 n.2.2
theorem On {g:Sort _}{i:Sort _}{j:Sort _}{l:Sort _}{m:Sort _}{n:Sort _}{o:Sort _}{q:g->i->j->l->m->n->o->Prop}{r:g->i->j->l->m->n->o->Prop}{s:g->i->j->l->m->n->o->Prop}{t:g->i->j->l->m->n->o->Prop}{G:Prop}(h:∃a0,∃a1,∃a,∃b,∃c,∃d,∃f,q a0 a1 a b c d f/\r a0 a1 a b c d f/\s a0 a1 a b c d f/\t a0 a1 a b c d f)(k:∀a0,∀a1,∀a,∀b,∀c,∀d,∀f,q a0 a1 a b c d f->r a0 a1 a b c d f->s a0 a1 a b c d f->t a0 a1 a b c d f->G):G:=h.elim λa0 h0=>h0.elim λa1 h1=>h1.elim λa u=>u.elim λb h3=>h3.elim λc v=>v.elim λd w=>w.elim λf p=>k a0 a1 a b c d f p.1 p.2.1 p.2.2.1 p.2.2.2
theorem Ld {f:Sort _}{g:Sort _}{i:Sort _}{j:Sort _}{l:Sort _}{m:Sort _}{o:f->g->i->j->l->m->Prop}{p:f->g->i->j->l->m->Prop}{q:f->g->i->j->l->m->Prop}{G:Prop}(h:∃a0,∃a1,∃a,∃b,∃c,∃d,o a0 a1 a b c d/\p a0 a1 a b c d/\q a0 a1 a b c d)(k:∀a0,∀a1,∀a,∀b,∀c,∀d,o a0 a1 a b c d->p a0 a1 a b c d->q a0 a1 a b c d->G):G:=h.elim λa0 h0=>h0.elim λa1 h1=>h1.elim λa r=>r.elim λb h3=>h3.elim λc s=>s.elim λd n=>k a0 a1 a b c d n.1 n.2.1 n.2.2
theorem qw {b:Sort _}{c:Sort _}{d:Sort _}{g:Sort _}{j:b->c->d->Prop}{l:b->c->d->Prop}{m:b->c->d->Prop}{n:b->c->d->g->Prop}{o:b->c->d->g->Prop}{G:Prop}(h:∃a0,∃a1,∃a,j a0 a1 a/\l a0 a1 a/\m a0 a1 a/\∃f,n a0 a1 a f/\o a0 a1 a f)(k:∀a0,∀a1,∀a,j a0 a1 a->l a0 a1 a->m a0 a1 a->∀f,n a0 a1 a f->o a0 a1 a f->G):G:=h.elim λa0 h0=>h0.elim λa1 h1=>h1.elim λa i=>i.2.2.2.elim λf h3=>k a0 a1 a i.1 i.2.1 i.2.2.1 f h3.1 h3.2
@[elab_as_elim] def n5 {p:Nat->Prop} (h0:p 0) (h1:p 1) (a:p 2) (h3:p 3) (b:∀n,p (n+4)) (n):p n:=by
 cases n with
 |zero=>show h0
 |succ n=>cases n with|zero=>show h1|succ n=>cases n with|zero=>show a|succ n=>cases n with|zero=>show h3|succ n=>show b n
inductive Pr where
 |len|min|max|sum|sorted|abs
 |tuple|list|range|zip|enumerate|dict|str
 |lappend|lpop|lextend|dget|dsetdefault|dpop|sjoin
def BN (p:Pr):Value:=match p with|.len=>.builtin "len"|.min=>.builtin "min"|.max=>.builtin "max"|.sum=>.builtin "sum"|.sorted=>.builtin "sorted"|.abs=>.builtin "abs"|.tuple=>.type "tuple"|.list=>.type "list"|.range=>.type "range"|.zip=>.type "zip"|.enumerate=>.type "enumerate"|.dict=>.type "dict"|.str=>.type "str"|.lappend=>.builtin "list.append"|.lpop=>.builtin "list.pop"|.lextend=>.builtin "list.extend"|.dget=>.builtin "dict.get"|.dsetdefault=>.builtin "dict.setdefault"|.dpop=>.builtin "dict.pop"|.sjoin=>.builtin "str.join"
inductive Dt where|any|v (x:Value)|pr (p:Pr)|int (i:Int)|str (s:Str)|tup (l:List Dt)|dom (l:List (Int×Int))|tp (n:Nat)|sel (l:List Dt) (n:Nat)
inductive RD where|r (i:Nat)|d (t:Dt)
abbrev F3:=Value->Shared->Prop
abbrev Qh:Obj:={cls:=.type "list",data:=.seq ([]:List Value).toArray}
inductive AV where|ref (i:Nat)|d (t:Dt)|mt (xs:List RD)
abbrev Cf:=List (Int×Int)
def Dk (h:Heap)(d:Cf)(vs:List Value):Prop:=match d with|[]=>vs=[]|p::d=>∃(a:Addr) (t u:Tok) (b:List Value),vs=.ref a::b/\h.IsTuple a #[.int p.1 t,.int p.2 u]/\Dk h d b
mutual
noncomputable def Ah (h:Heap)(t:Dt)(v:Value):Prop:=match t with|.any=>True|.v x=>v=x|.pr p=>v=BN p|.int i=>∃t,v=.int i t|.str s=>∃t,v=.str s t|.tup l=>∃(a:Addr) (items:Array Value),v=.ref a/\h.IsTuple a items/\Ad h l items.toList|.dom d=>∃(a:Addr) (items:Array Value),v=.ref a/\h.IsTuple a items/\Dk h d items.toList|.tp n=>∃(a:Addr) (items:Array Value),v=.ref a/\h.IsTuple a items/\items.size<=n|.sel l n=>Ik h l n v
noncomputable def Ad (h:Heap)(l:List Dt)(vs:List Value):Prop:=match l with|[]=>vs=[]|t::l=>∃v a,vs=v::a/\Ah h t v/\Ad h l a
noncomputable def Ik (h:Heap)(l:List Dt)(n:Nat)(v:Value):Prop:=match l with|[]=>True|t::l=>match n with|0=>Ah h t v|n+1=>Ik h l n v
end
def Qi (γ:List Addr)(h:Heap)(r:RD)(v:Value):Prop:=match r with|.r i=>∃a,v=.ref a/\γ[i]?=some a|.d t=>Ah h t v
def Er (γ:List Addr)(h:Heap)(l:List RD)(vs:List Value):Prop:=match l with|[]=>vs=[]|t::l=>∃v a,vs=v::a/\Qi γ h t v/\Er γ h l a
def Cg (γ:List Addr)(h:Heap)(a:AV)(v:Value):Prop:=match a with|.ref i=>∃a,v=.ref a/\γ[i]?=some a|.d t=>Ah h t v|.mt xs=>∃(a:Addr) (items:Array Value),v=.ref a/\h.IsTuple a items/\Er γ h xs items.toList
def AY (γ:List Addr)(h:Heap)(l:List AV)(vs:List Value):Prop:=match l with|[]=>vs=[]|t::l=>∃v a,vs=v::a/\Cg γ h t v/\AY γ h l a
def TK (h h':Heap):=∀a items,h.IsTuple a items->h'.IsTuple a items
theorem TK.refl h:TK h h:=λZ Z e=>e
theorem TK.trans (x:TK h h')(y:TK h' j):TK h j:=λb o e=>y b o (x b o e)
theorem TK.keeps (k:∀b o,h.get? b=some o->h'.get? b=some o):TK h h':=λ_ _ ⟨o,ho,r⟩=>⟨o,k _ _ ho,r⟩
def Ka (γ γ':List Addr):=∃e,γ'=γ++e
theorem Ka.refl γ:Ka γ γ:=⟨[],by simp⟩
def Ka.trans (x:Ka a b)(y:Ka b c):Ka a c:=by
 obtain⟨e,rfl⟩:=x;obtain⟨f,rfl⟩:=y;show⟨e++f,by simp⟩
def Ka.get {γ γ'}(x:Ka γ γ'){i:Nat}{a:Addr}(e:γ[i]?=some a):γ'[i]?=some a:=by
 obtain⟨f,rfl⟩:=x;obtain⟨hl,_⟩:=nC.mp e;show(mx hl)▸?_;show e
section
variable {γ γ':List Addr}{h h':Heap}
def Dk.mono (k:TK h h'):∀ {d:Cf} {vs:List Value},Dk h d vs->Dk h' d vs:=by
 intro d
 induction d with
 |nil=>show λr=>r
 |cons p d ih=>show λr=>ur r λa t u b e c r=>⟨a,t,u,b,e,k _ _ c,ih r⟩
theorem bM {P:Dt->Prop}{R:List Dt->Prop}(any:P .any)(v:∀x,P (.v x))(pr:∀p,P (.pr p))(int:∀i,P (.int i))(str:∀s,P (.str s))(dom:∀l,P (.dom l))(tp:∀n,P (.tp n))
 (tup:∀l,R l->P (.tup l)) (sel:∀l n,R l->P (.sel l n)) (nil:R []) (cons:∀t l,P t->R l->R (t::l)) t:P t:=
  Dt.rec (motive_1:=P) (motive_2:=R) any v pr int str tup dom tp sel nil cons t
theorem jm (k:TK h h')(t:Dt):∀v,Ah h t v->Ah h' t v:=
 bM (P:=λt=>∀v,Ah h t v->Ah h' t v) (R:=λl=>(∀vs,Ad h l vs->Ad h' l vs)/\∀n v,Ik h l n v->Ik h' l n v)
  (λZ r=>r) (λZ Z r=>r) (λZ Z r=>r) (λZ Z r=>r) (λZ Z r=>r)
  (λ_ _ ⟨a,i,e,b,r⟩=>⟨a,i,e,k _ _ b,r.mono k⟩) (λ_ _ ⟨a,i,e,b,r⟩=>⟨a,i,e,k _ _ b,r⟩)
  (λ_ ih _ ⟨a,i,e,b,r⟩=>⟨a,i,e,k _ _ b,ih.1 _ r⟩) (λZ n ih v r=>ih.2 n v r) ⟨λZ r=>r,λZ Z r=>r⟩
  (λZ Z p ih=>⟨λ_ ⟨v,c,e,r,rs⟩=>⟨v,c,e,p v r,ih.1 c rs⟩,λn v r=>match n,r with|0,r=>p v r|n+1,r=>ih.2 n v r⟩) t
theorem Ah.mono (k:TK h h'){t}{v}(r:Ah h t v):Ah h' t v:=jm k t v r
theorem Qi.mono (p:Ka γ γ')(k:TK h h'){x:RD}{v:Value}(r:Qi γ h x v):Qi γ' h' x v:=match x,r with|.r _,⟨a,e,i⟩=>⟨a,e,p.get i⟩|.d _,r=>Ah.mono k r
def Er.mono (p:Ka γ γ')(k:TK h h'):∀ {xs:List RD} {vs:List Value},Er γ h xs vs->Er γ' h' xs vs:=by
 intro xs
 induction xs with
 |nil=>show λr=>r
 |cons x xs ih=>show λ⟨v,a,e,r,rs⟩=>⟨v,a,e,r.mono p k,ih rs⟩
theorem Cg.mono (p:Ka γ γ')(k:TK h h'){x:AV}{v:Value}(r:Cg γ h x v):Cg γ' h' x v:=match x,r with|.ref _,⟨a,e,i⟩=>⟨a,e,p.get i⟩|.d _,r=>Ah.mono k r|.mt _,⟨a,i,e,b,r⟩=>⟨a,i,e,k _ _ b,r.mono p k⟩
def AY.mono (p:Ka γ γ')(k:TK h h'):∀ {xs:List AV} {vs:List Value},AY γ h xs vs->AY γ' h' xs vs:=by
 intro xs
 induction xs with
 |nil=>show λr=>r
 |cons x xs ih=>show λ⟨v,a,e,r,rs⟩=>⟨v,a,e,r.mono p k,ih rs⟩
end
inductive Ty where|int|pair|str|trl|pth|rft
structure El where
 x:Bool
 d:Cf
 v:Int
 w:Int
 s:Str
def CZ (b:Bool):Int:=match b with|true=>1|false=>0
def bl (b:Bool):Dt:=.v (.bool b)
def nn:Dt:=.v .none
def Ti (t:Ty)(e:El):Dt:=match t with|.int=>.int e.v|.pair=>.tup [.int e.v,.int e.w]|.str=>.str e.s|.trl=>.tup [.int (CZ e.x),.dom e.d,.any,.any,.any]|.pth=>.tup [.int (CZ e.x),.str "<=",.int e.v]|.rft=>.tup [.int e.v,.any]
def Ch (t:Ty)(e:El):AV:=.d (Ti t e)
def Tj (e:El):Value:=.int e.v e.w.toNat
def Oo (xs:List El):Obj:={cls:=.type "list",data:=.seq (xs.map Tj).toArray}
def J9 (k:Nat):Nat:=match k with|0=>0|1=>0|2=>0|3=>1|4=>1|5=>1|_=>2
def Fi {α:Type}(k:Nat)(a b c:α):α:=match k with|0=>a|1=>b|_=>c
theorem Na {α:Type}{p:α->Prop}{a b c}(d:p a)(hb:p b)(hc:p c):∀k,p (Fi k a b c)|0=>d|1=>hb|_+2=>hc
def Lg (k:Nat):=Fi (J9 k) 1849 1936 1894
def Gv (k:Nat):=Fi (J9 k) 1832 1919 1877
def qx (k:Nat):Int:=match k with|0=>1|1=>-1|2=>2|3=>1|4=>-1|5=>2|6=>1|7=>-1|_=>2
def M7 (k:Nat)(c:Int)(r:Nat):List (Str×AV):=
 ("number",.d .any)::("scope",.d (.tup [.int 0,.int 1]))::("strength",.d .any)::("coefs",.d .any)::("c",.d (.int c))::("rows",.ref r)::Fi (J9 k) [] [] [("divisor",.d (.int 1))]
def Oq (k:Nat):List AV:=[.d (.tup [.int 1,.int 0]),.d (.tup [.int (qx k),.int 1])]
def Il (n:Nat):List (Str×AV):=match n with|0=>[]|1=>[("all",.d (bl true))]|2=>[("answers",.d (.int 2))]|3=>[("answers",.d (.int 3))]|_=>[("all",.d (bl true)),("answers",.d (.int 2))]
inductive Kd where|vi|vn|vr|opt
inductive AO where
 |list (xs:List AV)|tl (t:Ty) (xs:List El)|ns (fs:List (Str×AV))|inst (C:Addr) (d:Nat)|cell (v:Option AV)
 |liter (src i:Nat)|titer (xs:List Dt) (i:Nat)|riter (x:Int) (n:Nat)|enum (it i:Nat)
 |idict (es:List (Int×AV))|sdict (es:List (Str×AV))|iset (b c:Bool)|rng (a b:Int)|kd (w:Kd) (k:Nat) (c:Int) (r:Nat)
 |raw (xs:List El)|edict (es:List (Int×AV)) (ep:Nat)|kiter (d i n ep:Nat)
def AO.nf (o:AO):AO:=match o with
 |.kd w k c r=>match w with|.vi=>.inst (Lg k) r|.vn=>.ns (M7 k c r)|.vr=>.list (Oq k)|.opt=>.sdict (Il k)
 |o=>o
def AO.vals (o:AO):List AV:=match o with|.list xs=>xs|.tl t xs=>xs.map (Ch t)|.raw xs=>xs.map (Ch .int)|.ns fs=>fs.map (·.2)|.inst _ d=>[.ref d]|.cell (some a)=>[a]|.liter b _=>[.ref b]|.titer xs _=>[.d (.tup xs)]|.enum it _=>[.ref it]|.idict es=>es.map (·.2)|.sdict es=>es.map (·.2)|.edict es _=>es.map (·.2)|.kiter d _ _ _=>[.ref d]|_=>[]
structure DB (ks:List Int) (b c:Bool):Prop where
 all:∀k∈ks,(k=0/\b)∨(k=1/\c)
 zero:b->(0:Int)∈ks
 one:c->(1:Int)∈ks
def Obj.all (o:Obj)(p:Heap->Addr->Prop):=∀h a,h.get? a=some o->p h a
def mapOf {K:Type}(kvs:List (K×Value))(es:List (K×AV))(vs:List Value):=kvs.map (·.1)=es.map (·.1)/\kvs.map (·.2)=vs
def qy (P:Program)(W:World)(ao:AO)(o:Obj)(vs:List Value):Prop:=match ao with|.list _=>∃n,o={cls:=.type "list",data:=.seq vs.toArray n}|.tl _ _=>∃n,o={cls:=.type "list",data:=.seq vs.toArray n}|.ns fs=>∃kvs,mapOf kvs fs vs/\Obj.all o λh a=>h.Ns a (λx=>kvs.lookup x)/\h.DictLe a kvs.length|.inst C _=>∃f,vs=[.ref f]/\o=instObj C f|.cell none=>o.data=.cell none|.cell (some _)=>∃v,vs=[v]/\o.data=.cell (some v)|.liter _ i=>∃l,vs=[.ref l]/\Obj.all o λh a=>h.IsListIter a l i|.titer _ i=>∃l,vs=[.ref l]/\Obj.all o λh a=>h.IsTupleIter a l i|.riter x n=>Obj.all o λh a=>IsRangeIter h a x n 1|.enum _ i=>∃b old,vs=[.ref b]/\Obj.all o λh a=>IsEnum h a b i old|.idict es=>∃kvs,mapOf kvs es vs/\Obj.all o λh a=>h.DictOf (intKind P W) a kvs|.sdict es=>∃kvs,mapOf kvs es vs/\Obj.all o λh a=>h.DictOf (strKind P W) a kvs|.iset b c=>∃kvs:List (Int×Value),DB (kvs.map (·.1)) b c/\Obj.all o λh a=>h.DictOf (intKind P W) a kvs|.rng x y=>∃t u v,Obj.all o λh a=>IsRange h a x y 1 t u v|.raw xs=>vs=xs.map Tj/\o=Oo xs|.edict es d=>∃kvs,mapOf kvs es vs/\Obj.all o λh a=>h.DictAt (intKind P W) a kvs d|.kiter _ i n d=>∃b,vs=[.ref b]/\Obj.all o λh a=>h.IsKeyIter a b i n d|.kd .. =>False
def AL (P:Program)(W:World)(γ:List Addr)(h:Heap)(ao:AO)(a:Addr):=∃o vs,h.get? a=some o/\qy P W ao.nf o vs/\AY γ h ao.nf.vals vs
section
variable {P:Program}{W:World}{γ γ':List Addr}{h h':Heap}{ao:AO}{a:Addr}
theorem AL.mono (p:Ka γ γ')(k:TK h h')(e:∀o,h.get? a=some o->h'.get? a=some o)(x:AL P W γ h ao a):AL P W γ' h' ao a:=
 Bj x λo vs ho r q=>⟨o,vs,e o ho,r,q.mono p k⟩
theorem AL.there (x:AL P W γ h ao a):∃o,h.get? a=some o:=Hi x λo Z ho Z=>⟨o,ho⟩
def noSeq {o:Obj}{p:Prop}(hd:∃es a,o.data=.dict es a) n items (e:o.data=.seq items n):p:=by
 show jP hd λes a hd=>?_;rw[e] at hd;ext hd
def Im {K:Type} [DecidableEq K] {knd:PySem.KeyKind P W K}{o}{kvs:List (K×Value)}(ho:h.get? a=some o)(hd:h.DictOf knd a kvs):∃es c,o.data=.dict es c:=by
 show Si hd λd es c b Z e Z=>?_;rw[ho] at b;ext b;show⟨es,c,e⟩
def F4 {o:Obj}{T:String}{p:Prop}(hd:∃c,h.get? a=some c/\c.cls=.type T)(ho:h.get? a=some o)(d:(T=="tuple")=false)(e:o.cls=.type "tuple"):p:=by
 obtain⟨c,b,hc⟩:=hd;rw[ho] at b;ext b;rw[e] at hc;ext hc;ext d
def qy.notTuple {o:Obj}{vs:List Value}(ho:h.get? a=some o)(x:qy P W ao o vs) items:¬h.IsTuple a items:=by
 rintro⟨c,b,hc,n,hd⟩
 rw[ho] at b;ext b;cases ao with
 |list=>cases x with|_ _ e=>subst e;show F4 ⟨_,ho,rfl⟩ ho rfl hc
 |tl=>cases x with|_ _ e=>subst e;show F4 ⟨_,ho,rfl⟩ ho rfl hc
 |ns=>show AH x λZ Z q=>Si (q h a ho).1 λc es d b e Z Z=>by rw[ho] at b;ext b;show noSeq ⟨_,_,e⟩ _ _ hd
 |inst=>cases x with|_ _ e=>cases e.2;ext hd
 |cell v=>cases v with|none=>have q:o.data=_:=x;rw[hd] at q;ext q|some=>show AH x λZ Z q=>by rw[hd] at q;ext q
 |liter=>show AH x λZ Z q=>Ek (q h a ho) λc b q Z=>F4 ⟨c,b,q⟩ ho rfl hc
 |titer=>show AH x λZ Z q=>Ek (q h a ho) λc b q Z=>F4 ⟨c,b,q⟩ ho rfl hc
 |riter=>show F4 ⟨_,x h a ho,rfl⟩ ho rfl hc
 |enum=>show Hi x λZ Z Z q=>F4 ⟨_,q h a ho,rfl⟩ ho rfl hc
 |idict=>show AH x λZ Z q=>noSeq (Im ho (q h a ho)) _ _ hd
 |sdict=>show AH x λZ Z q=>noSeq (Im ho (q h a ho)) _ _ hd
 |iset=>show AH x λZ Z q=>noSeq (Im ho (q h a ho)) _ _ hd
 |rng=>show XY x λZ Z Z q=>F4 ⟨_,q h a ho,rfl⟩ ho rfl hc
 |raw=>cases x.2;show F4 ⟨_,ho,rfl⟩ ho rfl hc
 |edict=>show AH x λZ Z q=>noSeq (Im ho (q h a ho).dictOf) _ _ hd
 |kiter=>show AH x λZ Z q=>Ek (q h a ho) λc b q Z=>F4 ⟨c,b,q⟩ ho rfl hc
 |kd=>show x.elim
theorem AL.notTuple (x:AL P W γ h ao a) items:¬h.IsTuple a items:=Bj x λZ Z ho r Z=>r.notTuple ho items
end
structure St where
 prog:Program
 w:World
 h₀:Heap
 mg:Str->Option Value
 mb:Str->Option Value
 os:OsState
 g:h₀.Ns mainGlobals mg
 b:h₀.Ns builtinsNs mb
 nl:h₀.NoLimit
 md:∃o,h₀.get? sysModules=some o
abbrev AC:=List (Option AO)
abbrev DK:=AV->AC->Prop
def live (σ:AC)(i:Nat)(ao:AO):=σ[i]?=some (some ao)
structure FC (S:St) (γ:List Addr) (σ:AC) (s:Shared):Prop where
 keep:∀b o,S.h₀.get? b=some o->s.heap.get? b=some o
 len:γ.length=σ.length
 cells:∀i ao a,live σ i ao->γ[i]?=some a->AL S.prog S.w γ s.heap ao a
 fresh:∀a∈γ,S.h₀.get? a=none
 apart:∀i j ao ao' a,live σ i ao->live σ j ao'->γ[i]?=some a->γ[j]?=some a->i=j
 gens:s.gens= #[]
 os:s.os=S.os
section
variable {S:St}{γ:List Addr}{σ:AC}{s:Shared}
theorem live.lt {i}{ao}(e:live σ i ao):i<σ.length:=(nC.mp e).1
theorem live.set_self {i}{ao}{c}(e:live σ i ao):(σ.set i c)[i]?=some c:=List.getElem?_set_self e.lt
def FC.addr (R:FC S γ σ s){i}{ao}(e:live σ i ao):∃a,γ[i]?=some a/\AL S.prog S.w γ s.heap ao a:=by
 have hl:i<γ.length:=R.len▸e.lt;show⟨γ[i],FA hl,R.cells i ao _ e (FA hl)⟩
def FC.noMods (R:FC S γ σ s){i:Nat}{a:Addr}(e:γ[i]?=some a):(a==sysModules)=false:=by
 rw[ug]
 rintro rfl
 obtain⟨o,ho⟩:=S.md;rw[R.fresh _ (uJ e)] at ho;ext ho
theorem FC.next (R:FC S γ σ s){u}{s'}(len:u.length=σ.length)(keep:∀b o,b ∉ γ->s.heap.get? b=some o->s'.heap.get? b=some o)
 (c:∀i ao a,live u i ao->γ[i]?=some a->AL S.prog S.w γ s'.heap ao a) (l:∀i ao,live u i ao->∃ao',live σ i ao') (g:s'.gens=s.gens) (o:s'.os=s.os):FC S γ u s':=
  ⟨λb o d=>keep b o (λm=>by rw[R.fresh b m] at d;ext d) (R.keep b o d),R.len.trans len.symm,c,R.fresh,
    λi j Z Z a h1 f h3 h=>let ⟨_,k1⟩:=l _ _ h1;let ⟨_,k⟩:=l _ _ f;R.apart i j _ _ a k1 k h3 h,g.trans R.gens,o.trans R.os⟩
theorem FC.grow (R:FC S γ σ s){h'}{t}(k:∀b o,s.heap.get? b=some o->h'.get? b=some o):FC S γ σ {s with heap:=h',toks:=t}:=
 R.next rfl (λb o Z e=>k b o e) (λi ao a e1 c=>(R.cells i ao a e1 c).mono (.refl γ) (.keeps k) λo e=>k _ _ e) (λZ Z e=>⟨_,e⟩) rfl rfl
def Lh γ (a:Addr):(γ++[a])[γ.length]?=some a:=by simp
def IG {α:Type}{l:List α}{i}{a b:α}(e:(l++[a])[i]?=some b):l[i]?=some b∨(i=l.length/\b=a):=by
 by_cases hi:i<l.length
 · rw[mx hi] at e;show .inl e
 · rw[uh (jF hi)] at e;cases h:i-l.length with|zero=>rw[h] at e;ext e;show .inr ⟨Nat.le_antisymm (Nat.le_of_sub_eq_zero h) (jF hi),rfl⟩|succ n=>rw[h] at e;ext e
def FC.new (R:FC S γ σ s){a:Addr}{h':Heap}{t:Nat}{ao:AO}(l:s.heap.get? a=none)(k:∀b o,s.heap.get? b=some o->h'.get? b=some o)(x:AL S.prog S.w (γ++[a]) h' ao a):
 FC S (γ++[a]) (σ++[some ao]) {s with heap:=h',toks:=t}:=by
 have r:=R.grow (t:=t) k;have no:∀(i:Nat) (ao:AO),live σ i ao->γ[i]?≠some a:=λi ao e c=>by
  obtain⟨o,ho⟩:=(R.cells i ao a e c).there;rw[l] at ho;ext ho
 have d:∀(i:Nat) (b:Addr),i<σ.length->(γ++[a])[i]?=some b->γ[i]?=some b:=λi b hi e=>by
  rwa [mx (R.len▸hi)] at e
 have m:∀b:Addr,(γ++[a])[σ.length]?=some b->b=a:=λb e=>by
  rw[<-R.len,Lh] at e;show(M1 e).symm
 show⟨r.keep,by simp[R.len],λi ao' b e1 c=>?_,λb hb=>?_,λi j n p b e1 c f g=>?_,R.gens,R.os⟩
 · rcases IG e1 with e1|⟨rfl,e⟩
   · show(r.cells i ao' b e1 (d i b (live.lt e1) c)).mono ⟨_,rfl⟩ (.refl _) λo e=>e
   · ext e;rw[m b c];show x
 · rcases List.mem_append.mp hb with hb|hb
   · show R.fresh b hb
   · simp at hb;subst hb;cases q:S.h₀.get? b with|none=>rfl|some v=>rw[R.keep _ _ q] at l;ext l
 · rcases IG e1 with f1|⟨hi,_⟩<;>rcases IG c with h|⟨u,_⟩
   · show R.apart i j _ _ b f1 h (d i b (live.lt f1) f) (d j b (live.lt h) g)
   · subst u;rw[m b g] at f;show absurd (d i _ (live.lt f1) f) (no i _ f1)
   · subst hi;rw[m b f] at g;show absurd (d j _ (live.lt h) g) (no j _ h)
   · show hi.trans u.symm
def Bw (h:Heap):h.get? h.objs.size=none:=by
 cases q:h.get? h.objs.size with
 |none=>rfl
 |some o=>show absurd (Oh q) (Zq _)
def EZ {α:Type}{l:List α}{i j}{a b:α}(e:(l.set i a)[j]?=some b):(j=i/\b=a/\i<l.length)∨(j≠i/\l[j]?=some b):=by
 by_cases c:j=i
 · subst c;have hl:j<l.length:=by have:=(nC.mp e).1;rwa [List.length_set] at this
   rw[List.getElem?_set_self hl] at e;ext e;show .inl ⟨rfl,rfl,hl⟩
 · rw[List.getElem?_set_ne (Ne.symm c)] at e;show .inr ⟨c,e⟩
theorem FC.tkBut (R:FC S γ σ s){i}{ao}{a}{h'}(e:live σ i ao)(d:γ[i]?=some a)(f:∀b o,b≠a->s.heap.get? b=some o->h'.get? b=some o):TK s.heap h':=
 λc items t=>AH t λo ho r=>⟨o,f c o (λq=>(R.cells i ao a e d).notTuple items (q▸t)) ho,r⟩
def FC.put (R:FC S γ σ s){i}{ao}{co}{a}{h'}{t}(e:live σ i ao)(d:γ[i]?=some a)(g:∀b o,b≠a->s.heap.get? b=some o->h'.get? b=some o)(x:∀ao',co=some ao'->TK s.heap h'->AL S.prog S.w γ h' ao' a):
 FC S γ (σ.set i co) {s with heap:=h',toks:=t}:=by
 have k:=R.tkBut e d g;show R.next (by simp) (λb o m h=>g b o (λq=>m (q▸uJ d)) h) (λj c b e1 f=>?_) (λj c e1=>?_) rfl rfl
 · rcases EZ e1 with ⟨rfl,hb,_⟩|⟨l,e1⟩
   · rw[d] at f;ext f;show x _ hb.symm k
   · have ne:b≠a:=by
      rintro rfl
      show l (R.apart j i _ _ b e1 e f d)
     show(R.cells j c b e1 f).mono (.refl γ) k λo n=>g b o ne n
 · rcases EZ e1 with ⟨rfl,_⟩|⟨_,e1⟩
   · show⟨_,e⟩
   · show⟨_,e1⟩
def FC.view (R:FC S γ σ s){i}{ao ao'}(e:live σ i ao)(h:∀a,γ[i]?=some a->AL S.prog S.w γ s.heap ao a->AL S.prog S.w γ s.heap ao' a):FC S γ (σ.set i (some ao')) s:=by
 show AH (R.addr e) λa c r=>?_;show R.put (h':=s.heap) (t:=s.toks) e c (λZ Z Z e=>e) λb q Z=>by ext q;show h a c r
end
structure At (S:St) where
 γ:List Addr
 σ:AC
 s:Shared
 R:FC S γ σ s
structure At.le {S:St} (c c':At S):Prop where
 pre:Ka c.γ c'.γ
 tk:TK c.s.heap c'.s.heap
abbrev At.h {S:St}(c:At S):=c.s.heap
abbrev At.VR {S:St}(c:At S)(a:AV)(v:Value):=Cg c.γ c.s.heap a v
abbrev At.VRs {S:St}(c:At S)(a:List AV)(v:List Value):=AY c.γ c.s.heap a v
section
variable {S:St}{c c' c'':At S}
theorem At.le.refl (c:At S):c.le c:=⟨.refl _,.refl _⟩
theorem At.le.trans (x:c.le c')(y:c'.le c''):c.le c'':=⟨x.pre.trans y.pre,x.tk.trans y.tk⟩
theorem At.le.vr (x:c.le c'){a}{v}(r:c.VR a v):c'.VR a v:=Cg.mono x.pre x.tk r
theorem At.le.vrs (x:c.le c'){a}{v}(r:c.VRs a v):c'.VRs a v:=AY.mono x.pre x.tk r
def At.grow (c:At S){h':Heap}(t:Nat)(k:∀b o,c.s.heap.get? b=some o->h'.get? b=some o):At S:=⟨c.γ,c.σ,{c.s with heap:=h',toks:=t},c.R.grow k⟩
theorem At.le_grow (c:At S){h':Heap} t (k:∀b o,c.s.heap.get? b=some o->h'.get? b=some o):c.le (c.grow t k):=⟨.refl _,.keeps k⟩
def At.tok (c:At S)(t:Nat):At S:=c.grow t λZ Z e=>e
theorem At.le_tok (c:At S) t:c.le (c.tok t):=⟨.refl _,.refl _⟩
def At.push (c:At S)(o:Obj)(t:Nat):At S:=c.grow t λZ Z e=>JQ o e
theorem At.le_push (c:At S)(o:Obj)(t:Nat):c.le (c.push o t):=c.le_grow t _
def At.new (c:At S){a:Addr}{h':Heap}{ao:AO}(t:Nat)(d:c.s.heap.get? a=none)(k:∀b o,c.s.heap.get? b=some o->h'.get? b=some o)(x:AL S.prog S.w (c.γ++[a]) h' ao a):At S:=
 ⟨c.γ++[a],c.σ++[some ao],{c.s with heap:=h',toks:=t},c.R.new d k x⟩
theorem At.le_new (c:At S){a}{h'}{ao} t (d:c.s.heap.get? a=none)(k:∀b o,c.s.heap.get? b=some o->h'.get? b=some o)(x:AL S.prog S.w (c.γ++[a]) h' ao a):c.le (c.new t d k x):=⟨⟨_,rfl⟩,.keeps k⟩
theorem At.new_ref (c:At S)(a:Addr):(c.γ++[a])[c.σ.length]?=some a:=c.R.len▸Lh _ _
def At.put (c:At S){i:Nat}{ao:AO}{co:Option AO}{a:Addr}{h':Heap}(t:Nat)(e:live c.σ i ao)(d:c.γ[i]?=some a)(f:∀b o,b≠a->c.s.heap.get? b=some o->h'.get? b=some o)(x:∀ao',co=some ao'->TK c.s.heap h'->AL S.prog S.w c.γ h' ao' a):At S:=
 ⟨c.γ,c.σ.set i co,{c.s with heap:=h',toks:=t},c.R.put e d f x⟩
theorem At.le_put (c:At S){i}{ao}{co}{a}{h'} t (e:live c.σ i ao)(d:c.γ[i]?=some a)(f:∀b o,b≠a->c.s.heap.get? b=some o->h'.get? b=some o)(x:∀ao',co=some ao'->TK c.s.heap h'->AL S.prog S.w c.γ h' ao' a):c.le (c.put t e d f x):=⟨.refl _,c.R.tkBut e d f⟩
def At.view (c:At S){i:Nat}{ao ao':AO}(e:live c.σ i ao)(h:∀a,c.γ[i]?=some a->AL S.prog S.w c.γ c.s.heap ao a->AL S.prog S.w c.γ c.s.heap ao' a):At S:=⟨c.γ,c.σ.set i (some ao'),c.s,c.R.view e h⟩
theorem At.le_view (c:At S){i}{ao ao'}(e:live c.σ i ao)(h:∀a,c.γ[i]?=some a->AL S.prog S.w c.γ c.s.heap ao a->AL S.prog S.w c.γ c.s.heap ao' a):c.le (c.view e h):=⟨.refl _,.refl _⟩
def W {ρ α:Type}(rel:At S->ρ->α->Prop)(A:Around)(c:At S)(m:Sem α)(k:ρ->AC->Prop):Prop:=
 ∀(E:Value->Shared->Prop) (Q:α->Shared->Prop),(∀r (c':At S) x,k r c'.σ->c.le c'->rel c' r x->Q x c'.s)->wpAny (model S.prog S.w) A m Q E c.s
abbrev WV (A:Around)(c:At S)(m:Sem Value)(k:AV->AC->Prop):=W At.VR A c m k
def At.BR (_:At S)(b a:Bool):=a=b
def At.UR (_:At S)(_:Unit)(_:Unit):=True
abbrev WB (A:Around)(c:At S)(m:Sem Bool)(k:Bool->AC->Prop):=W At.BR A c m k
abbrev WU (A:Around)(c:At S)(m:Sem Unit)(k:AC->Prop):=W At.UR A c m λZ=>k
variable {A:Around}{ρ ρ' α β:Type}{rel:At S->ρ->α->Prop}{rel':At S->ρ'->β->Prop}
theorem W.bind (h:W rel A c m k)(q:∀r (c':At S) x,k r c'.σ->c.le c'->rel c' r x->W rel' A c' (f x) j):W rel' A c (m>>=f) j:=
 λE Q z=>An (h E _ λr c' x hk l hr=>q r c' x hk l hr E Q λr' c'' y a d b=>z r' c'' y a (l.trans d) b)
theorem W.le (l:c.le c')(a:c'.s=c.s)(h:W rel A c' m k):W rel A c m k:=λE Q z=>a▸h E Q λr c'' x hk b hr=>z r c'' x hk (l.trans b) hr
end
def fork (b:Bool)(k:Bool->Prop):Prop:=Bool.rec (k false) (k true) b
def EQ (h:fork b k):k b:=by cases b<;>show h
def Tk (h:b=true->p)(h':b=false->q):(Bool.rec q p b:Prop):=by
 cases b with
 |true=>show h rfl
 |false=>show h' rfl
def As (b:Bool)(p:Prop):Prop:=Bool.rec False p b
def F5 (h:As b p):b/\p:=by
 cases b with
 |true=>show⟨rfl,h⟩
 |false=>show h.elim
theorem AG {b:Bool}{p P:Prop}(h:As b p)(q:b->p->P):P:=q (F5 h).1 (F5 h).2
def AD {α:Type}(o:Option α)(k:α->Prop):Prop:=Option.rec False k o
def AW {α:Type}(o:Option α)(k:α->Prop)(e:Prop):Prop:=Option.rec e k o
def AE {α:Type}{o:Option α}{k:α->Prop}{e P:Prop}(h:AW o k e)(y:∀x,o=some x->k x->P)(n:e->P):P:=by
 cases o with
 |none=>show n h
 |some x=>show y x rfl h
theorem AA {α:Type}{o:Option α}{k:α->Prop}{P:Prop}(h:AD o k)(q:∀x,o=some x->k x->P):P:=AE (e:=False) h q False.elim
def Br {α β:Type}(o:Option α)(f:α->Option β):Option β:=Option.rec none f o
def AI {α β:Type}{o:Option α}{f:α->Option β}{r:β}{P:Prop}(e:Br o f=some r)(q:∀x,o=some x->f x=some r->P):P:=by
 cases o with
 |none=>ext e
 |some x=>show q x rfl e
theorem Bc {α β:Type}{o:Option α}{f:α->Option β}{r:β}(e:Br o f=some r):∃x,o=some x/\f x=some r:=AI e λx a b=>⟨x,a,b⟩
def Db (σ:AC)(i:Nat)(k:AO->Prop):Prop:=AD (Br σ[i]? id) k
theorem BM {σ:AC}{i:Nat}{k}{P:Prop}(h:Db σ i k)(q:∀ao,live σ i ao->k ao->P):P:=
 AA h λao e h=>AI e λc e1 a=>q ao (by ext a;show e1) h
def Ap (h:Option.rec True p o)(e:o=some x):p x:=by subst e;show h
def Es (a:AV):Option Nat:=match a with|.ref i=>some i|_=>none
def Ff (a:AV):Option Dt:=match a with|.d t=>some t|_=>none
def Zi (t:Dt):Option Value:=match t with|.v x=>some x|_=>none
def QM (t:Dt):Option Int:=match t with|.int x=>some x|_=>none
def jI (t:Dt):Option Str:=match t with|.str x=>some x|_=>none
def JS (t:Dt):Option (List Dt):=match t with|.tup x=>some x|_=>none
def II {a}{i}(e:Es a=some i):a=.ref i:=by
 show Ap (p:=λx=>a=.ref x) ?_ e;cases a<;>trivial
def DM (e:Ff a=some t):a=.d t:=by
 show Ap (p:=λx=>a=.d x) ?_ e;cases a<;>trivial
def Gw (e:Zi t=some x):t=.v x:=by
 show Ap (p:=λx=>t=.v x) ?_ e;cases t<;>trivial
def CK {t}{x}(e:QM t=some x):t=.int x:=by
 show Ap (p:=λx=>t=.int x) ?_ e;cases t<;>trivial
def D6 (e:jI t=some x):t=.str x:=by
 show Ap (p:=λx=>t=.str x) ?_ e;cases t<;>trivial
def Ci (e:JS t=some x):t=.tup x:=by
 show Ap (p:=λx=>t=.tup x) ?_ e;cases t<;>trivial
def Cp (a:AV):Option Int:=Br (Ff a) QM
def M8 (a:AV):Option Str:=Br (Ff a) jI
section
variable {S:St}{c:At S}{a:AV}{v:Value}
@[elab_as_elim] def Nb {P:Value->Prop} {i:Nat} (e:Es a=some i) (r:c.VR a v) (q:∀ad,c.γ[i]?=some ad->P (.ref ad)):P v:=by
 cases II e;obtain⟨ad,rfl,h⟩:=r;show q ad h
def A8 {t}(e:Ff a=some t)(r:c.VR a v):Ah c.h t v:=by cases DM e;show r
@[elab_as_elim] def AAX {h:Heap} {P:Value->Prop} {t:Dt} {i:Int} (e:QM t=some i) (r:Ah h t v) (q:∀t,P (.int i t)):P v:=by
 cases CK e;obtain⟨t,rfl⟩:=r;show q t
@[elab_as_elim] def Ot {h:Heap} {P:Value->Prop} {t:Dt} {i:Str} (e:jI t=some i) (r:Ah h t v) (q:∀t,P (.str i t)):P v:=by
 cases D6 e;obtain⟨t,rfl⟩:=r;show q t
@[elab_as_elim] def Ou {h:Heap} {P:Value->Prop} {t:Dt} {x:Value} (e:Zi t=some x) (r:Ah h t v) (q:P x):P v:=by
 cases Gw e;ext r;show q
@[elab_as_elim] def Dy {h:Heap} {P:Value->Prop} {t:Dt} {l:List Dt} (e:JS t=some l) (r:Ah h t v) (q:∀ad its,h.IsTuple ad its->Ad h l its.toList->P (.ref ad)):P v:=by
 cases Ci e;show Bj r λa its b c hx=>?_;subst b;show q a its c hx
@[elab_as_elim] theorem A9 {P:Value->Prop} {i:Int} (e:Cp a=some i) (r:c.VR a v) (q:∀t,P (.int i t)):P v:=AI e λZ e1 b=>AAX b (A8 e1 r) q
@[elab_as_elim] theorem Gx {P:Value->Prop} {i:Str} (e:M8 a=some i) (r:c.VR a v) (q:∀t,P (.str i t)):P v:=AI e λZ e1 b=>Ot b (A8 e1 r) q
def Cj (σ:AC)(a:AV)(k:Nat->AO->Prop):Prop:=AD (Es a) λi=>Db σ i λao=>k i ao
@[elab_as_elim] theorem Al {P:Value->Prop} {k:Nat->AO->Prop} (h:Cj c.σ a k) (r:c.VR a v) (q:∀i ao ad,c.γ[i]?=some ad->live c.σ i ao->AL S.prog S.w c.γ c.h ao ad->k i ao->P (.ref ad)):P v:=
 AA h λi e h=>Nb e r λad b=>BM h λao d h=>q i ao ad b d (c.R.cells i ao ad d b) h
end
end
section
open PySem PySem.W PySem.Spec PySem.Calls PyProof.Rows
open PySem.SeqAt
abbrev St.mdl (S:St):=model S.prog S.w
section
variable {γ:List Addr}{h:Heap}
def Dk.length {d}:∀ {vs:List Value},Dk h d vs->d.length=vs.length:=by
 induction d with
 |nil=>intro vs r;ext r;rfl
 |cons p d ih=>rintro vs ⟨_,_,_,a,rfl,_,r⟩;show congrArg (· +1) (ih r)
def Dk.append {d e}:∀ {vs b:List Value},Dk h d vs->Dk h e b->Dk h (d++e) (vs++b):=by
 induction d with
 |nil=>intro vs b r q;ext r;show q
 |cons p d ih=>rintro vs b ⟨a,t,u,c,rfl,f,r⟩ q;show⟨a,t,u,c++b,rfl,f,ih r q⟩
def Ad.length:∀ {vs:List Value},Ad h l vs->l.length=vs.length:=by
 induction l with
 |nil=>intro vs r;ext r;rfl
 |cons p d ih=>rintro vs ⟨_,a,rfl,_,r⟩;show congrArg (· +1) (ih r)
def Ad.append:∀ {vs a:List Value},Ad h d vs->Ad h e a->Ad h (d++e) (vs++a):=by
 induction d with
 |nil=>intro vs a r q;ext r;show q
 |cons p d ih=>rintro vs a ⟨v,b,rfl,c,r⟩ q;show⟨v,b++a,rfl,c,ih r q⟩
def Ad.mono (k:TK h h'):∀ {vs:List Value},Ad h l vs->Ad h' l vs:=by
 induction l with
 |nil=>show λr=>r
 |cons t l ih=>show λ⟨v,a,e,r,rs⟩=>⟨v,a,e,r.mono k,ih rs⟩
def Ad.get:∀ {vs:List Value} {i:Nat} {t:Dt},Ad h l vs->l[i]?=some t->∃v,vs[i]?=some v/\Ah h t v:=by
 induction l with
 |nil=>intro vs i t _ e;ext e
 |cons p d ih=>
  rintro vs i t ⟨v,a,rfl,r,rs⟩ e
  cases i with
  |zero=>ext e;show⟨v,rfl,r⟩
  |succ i=>show ih (vs:=a) (i:=i) rs e
def AY.length:∀ {vs:List Value},AY γ h l vs->l.length=vs.length:=by
 induction l with
 |nil=>intro vs r;ext r;rfl
 |cons p d ih=>rintro vs ⟨_,a,rfl,_,r⟩;show congrArg (· +1) (ih r)
def AY.append:∀ {vs a:List Value},AY γ h d vs->AY γ h e a->AY γ h (d++e) (vs++a):=by
 induction d with
 |nil=>intro vs a r q;ext r;show q
 |cons p d ih=>rintro vs a ⟨v,b,rfl,c,r⟩ q;show⟨v,b++a,rfl,c,ih r q⟩
def AY.get:∀ {vs:List Value} {i:Nat} {t:AV},AY γ h l vs->l[i]?=some t->∃v,vs[i]?=some v/\Cg γ h t v:=by
 induction l with
 |nil=>intro vs i t _ e;ext e
 |cons p d ih=>
  rintro vs i t ⟨v,a,rfl,r,rs⟩ e
  cases i with
  |zero=>ext e;show⟨v,rfl,r⟩
  |succ i=>show ih (vs:=a) (i:=i) rs e
def Hs (l:List AV):Option (List Dt):=match l with|[]=>some []|a::l=>Br (Ff a) λt=>Br (Hs l) λr=>some (t::r)
def bN (e:Hs (a::l)=some r):∃t r',a=.d t/\Hs l=some r'/\r=t::r':=by
 show AH (Bc e) λt h e=>?_;show AH (Bc e) λr' h' e=>?_;show⟨t,r',DM h,h',(M1 e).symm⟩
def Ea:∀ {r:List Dt} {vs:List Value},Hs l=some r->AY γ h l vs->Ad h r vs:=by
 induction l with
 |nil=>intro r vs e q;ext e;show q
 |cons a l ih=>
  rintro r vs e ⟨v,b,rfl,q,qs⟩
  show Bj (bN e) λt r' c d f=>?_;subst c;subst f;show⟨v,b,rfl,q,ih d qs⟩
def Qj:∀ {vs:List Value},Ad h l vs->AY γ h (l.map .d) vs:=by
 induction l with
 |nil=>show λr=>r
 |cons t l ih=>show λ⟨v,a,e,r,rs⟩=>⟨v,a,e,r,ih rs⟩
def Ov (x:h.IsTuple a xs)(y:h.IsTuple a j):xs=j:=by
 show Om x λo ho Z n hd=>?_;show Om y λd b Z f c=>?_;rw[ho] at b;cases b;rw[hd] at c;cases c;rfl
def pairD (p:Int×Int):Dt:=.tup [.int p.1,.int p.2]
def Ow {d}:∀ {vs:List Value},Dk h d vs->Ad h (d.map pairD) vs:=by
 induction d with
 |nil=>show λr=>r
 |cons p d ih=>show λr=>ur r λa t u b e c r=>⟨.ref a,b,e,⟨a,_,rfl,c,_,_,rfl,⟨t,rfl⟩,_,_,rfl,⟨u,rfl⟩,rfl⟩,ih r⟩
end
def Vw (x y:Str):=x.cps.toList==y.cps.toList
def Qk x y:Vw x y=(x==y):=by
 obtain⟨⟨x⟩⟩:=x;obtain⟨⟨y⟩⟩:=y;unfold Vw;rw[Bool.eq_iff_iff,Fz,Fz];simp
def Vx (a b:Option Bool):=Br a λx=>Br b λy=>some (x&&y)
def Tl (e:Vx a b=some r):∃x y,a=some x/\b=some y/\r=(x&&y):=by
 show AH (Bc e) λx h1 e=>?_;show AH (Bc e) λy c e=>?_;show⟨x,y,h1,c,(M1 e).symm⟩
def vk (x:Value):Option (Option Bool):=match x with|.none=>some none|.bool b=>some (some b)|_=>none
def qz (p:Option Bool):Value:=match p with|none=>.none|some b=>.bool b
def Kk (e:vk x=some p):x=qz p:=by
 cases x with
 |none=>ext e;rfl
 |bool b=>ext e;rfl
 |_=>ext e
def jn (p q:Option Bool):Option Bool:=match p with
 |none=>match q with|none=>some true|some _=>none
 |some a=>Br q λb=>some (a==b)
mutual
noncomputable def Li (t u:Dt)(n:Nat):Option Bool:=match t with
 |.v x=>Br (Zi u) λy=>Br (vk x) λp=>Br (vk y) λq=>jn p q
 |.int i=>Br (QM u) λj=>some (i==j)
 |.str a=>Br (jI u) λb=>some (Vw a b)
 |.tup l=>Br (JS u) λm=>match n with|0=>none|n+1=>EO l m n
 |_=>none
noncomputable def EO (l m:List Dt)(n:Nat):Option Bool:=match l with|[]=>some m.isEmpty|t::l=>match m with|[]=>some false|u::m=>Vx (Li t u n) (EO l m n)
end
structure bO (A:Around) (s:Shared) (v w:Value) (r:Bool):Prop where
 eq:EqAt A s v w r
 rc:RcAt A s v w r
 ne:RcNeAt A s v w (!r)
section
variable {A:Around}{s:Shared}
def Vy (e:jn p q=some r):bO A s (qz p) (qz q) r:=by
 cases p with
 |none=>cases q with|none=>ext e;show⟨.same _,.none_none,.none_none⟩|some b=>ext e
 |some a=>
  show AH (Bc e) λb c e=>?_;subst c;ext e;show⟨.bool_bool _ _,.bool_bool _ _,.bool_bool _ _⟩
def Nc (e:jn p q=some r)(h:qz p=qz q):r:=by
 cases p with
 |none=>cases q with|none=>ext e;rfl|some b=>ext e
 |some a=>
  show AH (Bc e) λb c e=>?_;subst c;ext e;ext h;simp
def HK {P:Prop}{t u:Dt}{n:Nat}{r:Bool}(e:Li t u n=some r)(v:∀p q,t=.v (qz p)->u=.v (qz q)->jn p q=some r->P)(i:∀i j,t=.int i->u=.int j->r=(i==j)->P)
 (c:∀a b,t=.str a->u=.str b->r=(a==b)->P) (p:∀l m d,t=.tup l->u=.tup m->n=d+1->EO l m d=some r->P):P:=by
 cases t with
 |v x=>
  show AH (Bc e) λy e1 e=>?_;show AH (Bc e) λp f e=>?_;show AH (Bc e) λq g e=>?_;show v p q (by rw[Kk f]) (by rw[Gw e1,Kk g]) e
 |int a=>show AH (Bc e) λy e1 e=>?_;show i a y rfl (CK e1) (M1 e).symm
 |str a=>show AH (Bc e) λy e1 e=>?_;show c a y rfl (D6 e1) ((M1 e).symm.trans (Qk a y))
 |tup l=>
  show AH (Bc e) λm e1 e=>?_;cases n with
  |zero=>ext e
  |succ n=>show p l m n rfl (Ci e1) rfl e
 |_=>ext e
theorem IJ {t u}{l m}{n}{r}(e:EO (t::l) (u::m) n=some r):∃x y,Li t u n=some x/\EO l m n=some y/\r=(x&&y):=Tl e
def bP {h:Heap} n:∀ {t u:Dt} {v:Value} {r:Bool},Ah h t v->Ah h u v->Li t u n=some r->r:=by
 induction n with
 |zero=>
  intro t u v r a b e;show HK e (λx y e1 c q=>?_) (λi j e1 c q=>?_) (λi j e1 c q=>?_) (λl m o e1 c q=>nomatch q)<;>subst e1 c
  · show Nc q (a.symm.trans b)
  · obtain⟨_,rfl⟩:=a;obtain⟨_,e⟩:=b;ext e;rw[q,uK]
  · obtain⟨_,rfl⟩:=a;obtain⟨_,e⟩:=b;ext e;rw[q,uK]
 |succ n ih=>
  intro t u v r a b e;show HK e (λx y e1 c q=>?_) (λi j e1 c q=>?_) (λi j e1 c q=>?_) (λl m o e1 c p q=>?_)<;>subst e1 c
  · show Nc q (a.symm.trans b)
  · obtain⟨_,rfl⟩:=a;obtain⟨_,e⟩:=b;ext e;rw[q,uK]
  · obtain⟨_,rfl⟩:=a;obtain⟨_,e⟩:=b;ext e;rw[q,uK]
  · ext p;show Bj a λx xs d s hx=>?_;subst d;show Bj b λy A e f w=>?_;ext e;cases Ov s f;have go:∀ {l m:List Dt} {vs:List Value} {r:Bool},Ad h l vs->Ad h m vs->EO l m n=some r->r:=by
     intro l
     induction l with
     |nil=>
      intro m vs r a b e;ext a;cases m with
      |nil=>ext e;rfl
      |cons u m=>show Hi b λZ Z g Z=>?_;ext g
     |cons t l k=>
      rintro m vs r ⟨v,B,rfl,a,as⟩ b e
      cases m with
      |nil=>ext b
      |cons u m=>
       show Bj b λZ Z g b z=>?_;cases g;show Bj (IJ e) λx y e1 c d=>?_;subst d;rw[ih a b e1,k as z c];rfl
    show go hx w q
def KA {n}:∀ {l m:List Dt} {r:Bool},EO l m n=some r->∃e:Nat->Bool,(∀j t u,l[j]?=some t->m[j]?=some u->Li t u n=some (e j))/\((List.range (min l.length m.length)).all e&&(l.length==m.length))=r:=by
 intro l
 induction l with
 |nil=>
  intro m r q;cases m with
  |nil=>ext q;show⟨λZ=>true,λj t u h=>by simp at h,rfl⟩
  |cons=>ext q;show⟨λZ=>true,λj t u h=>by simp at h,by simp⟩
 |cons t l ih=>
  intro m r q;cases m with
  |nil=>ext q;show⟨λZ=>true,λj t u Z h=>by simp at h,by simp⟩
  |cons u m=>
   show Bj (IJ q) λx y e1 a c=>?_;subst c;show AH (ih a) λe h1 d=>?_;show⟨λj=>Nat.casesOn j x e,λj f g k1 b=>?_,?_⟩
   · cases j with|zero=>ext k1;ext b;show e1|succ j=>show h1 j f g k1 b
   · have e1:min (t::l).length (u::m).length=min l.length m.length+1:=by simp[Nat.succ_min_succ]
     have a:((t::l).length==(u::m).length)=(l.length==m.length):=by simp
     rw[e1,List.range_succ_eq_map,List.all_cons,List.all_map,a,pe,<-d];rfl
def Ql {n:Nat}{l m:List Dt}{e:Nat->Bool}(f:∀ {t u:Dt} {v w:Value} {r:Bool},Ah s.heap t v->Ah s.heap u w->Li t u n=some r->EqAt A s v w r)(he:∀j t u,l[j]?=some t->m[j]?=some u->Li t u n=some (e j))
 {xs a:Array Value} (hx:Ad s.heap l xs.toList) (b:Ad s.heap m a.toList) j (h1:j<xs.size) (c:j<a.size):EqAt A s xs[j] a[j] (e j):=by
  have l1:j<l.length:=by rw[hx.length,Ej];show h1
  have l2:j<m.length:=by rw[b.length,Ej];show c
  show Zv λg gk=>?_;show AH (hx.get (FA l1)) λv e1 h=>?_;show AH (b.get (FA l2)) λw d i=>?_;rw[Vn,Array.getElem?_eq_getElem h1] at e1;rw[Vn,Array.getElem?_eq_getElem c] at d;ext e1;ext d;show gk ?_;clear gk g;show f h i (he j _ _ (FA l1) (FA l2))
def Ox (n:Nat):∀ {A:Around} (_:A.units+n<cLine) {t u:Dt} {v w:Value} {r:Bool},Ah s.heap t v->Ah s.heap u w->Li t u n=some r->bO A s v w r:=by
 induction n with
 |zero=>
  intro A B t u v w r a b e;show HK e (λx y e1 d q=>?_) (λi j e1 d q=>?_) (λi j e1 d q=>?_) (λl m C e1 d q=>nomatch q)<;>subst e1 d
  · ext a;ext b;show Vy q
  · obtain⟨_,rfl⟩:=a;obtain⟨_,rfl⟩:=b;subst q;show⟨.int_int _ _ _ _,.int_int _ _ _ _,.int_int _ _ _ _⟩
  · obtain⟨_,rfl⟩:=a;obtain⟨_,rfl⟩:=b;subst q;show⟨.str_str _ _ _ _,.str_str _ _ _ _,.str_str _ _ _ _⟩
 |succ n ih=>
  intro A B t u v w r a b e;show HK e (λx y e1 d q=>?_) (λi j e1 d q=>?_) (λi j e1 d q=>?_) λl m C e1 d D q=>?_
  · subst e1 d;ext a;ext b;show Vy q
  · subst e1 d;obtain⟨_,rfl⟩:=a;obtain⟨_,rfl⟩:=b;subst q;show⟨.int_int _ _ _ _,.int_int _ _ _ _,.int_int _ _ _ _⟩
  · subst e1 d;obtain⟨_,rfl⟩:=a;obtain⟨_,rfl⟩:=b;subst q;show⟨.str_str _ _ _ _,.str_str _ _ _ _,.str_str _ _ _ _⟩
  · ext D;have sm:v=w->r:=λh=>bP (n+1) a (h▸b) e;subst e1 d;show Bj a λx xs g k hx=>?_;subst g;show Bj b λy E g f o=>?_;subst g;show AH (KA q) λe h1 p=>?_;have he:=Ql (A:=A.in1) (λa b c=>(ih (A:=A.in1) (by change A.units+1+n<cLine;lia) a b c).eq) h1 hx o;have k1:=RcAt.tuples (A:=A) (s:=s) (e:=e) k f (by lia) he;have z:=RcNeAt.tuples (A:=A) (s:=s) (e:=e) k f (by lia) he;rw[hx.length,o.length,Ej,Ej] at p;rw[p] at k1 z;show⟨?_,k1,z⟩
    by_cases q:x=y
    · ext q;show(sm rfl)▸?_;show .same _
    · show EqAt.of_refs q k1
def Nd (t:Dt):Option Cf:=match t with
 |.dom d=>some d
 |.tup l=>match l with|[]=>some []|_=>none
 |_=>none
def Vz (t:Dt):Bool:=match t with|.dom _=>true|_=>false
def q5 (a b:Option Cf):=Br a λd=>Br b λe=>some (decide (d=e))
def zE (t u:Dt):Option Bool:=Bool.rec (Li t u 8) (q5 (Nd t) (Nd u)) (Vz t||Vz u)
def jo:∀d e:Cf,EO (d.map pairD) (e.map pairD) 1=some (decide (d=e)):=by
 intro d
 induction d with
 |nil=>intro e;cases e<;>rfl
 |cons p d ih=>
  intro e;cases e with
  |nil=>rfl
  |cons q e=>
   change Vx (Li (pairD p) (pairD q) 1) (EO (d.map pairD) (e.map pairD) 1)=_;rw[ih e];show congrArg some ?_;obtain⟨a,b⟩:=p;obtain⟨c,f⟩:=q;rw[Bool.eq_iff_iff];simp[and_assoc]
theorem Ah.domTup {h}{d}{v}(r:Ah h (.dom d) v):Ah h (.tup (d.map pairD)) v:=Bj r λa i e b q=>⟨a,i,e,b,Ow q⟩
def Nf {h}{t}{d}{v}(e:Nd t=some d)(r:Ah h t v):Ah h (.tup (d.map pairD)) v:=by
 cases t with
 |dom d=>ext e;show r.domTup
 |tup l=>cases l with|nil=>ext e;show r|cons=>ext e
 |_=>ext e
def bQ (c:A.units+8<cLine)(a:Ah s.heap t v)(b:Ah s.heap u w)(e:zE t u=some r):bO A s v w r:=by
 unfold zE at e;cases q:Vz t||Vz u with
 |false=>rw[q] at e;show Ox 8 c a b e
 |true=>
  rw[q] at e;show AH (Bc e) λd q1 e=>?_;show AH (Bc e) λg f e=>?_;ext e;show Ox 2 (by lia) (Nf q1 a) (Nf f b) (jo _ _)
end
def items (o:AO):Option (List AV):=match o with
 |.list xs=>some xs
 |.tl t xs=>some (xs.map (Ch t))
 |.kd w k c r=>(match w with|.vr=>some (Oq k)|_=>none)
 |_=>none
section
variable {P:Program}{W:World}{γ:List Addr}{h:Heap}{ao:AO}{a:Addr}{xs:List AV}
def AAS {R:AO->Prop}(e:items ao=some xs)(l:R (.list xs))(t:∀t a,xs=a.map (Ch t)->R (.tl t a))(v:∀k c r,xs=Oq k->R (.kd .vr k c r)):R ao:=by
 cases ao with
 |list=>ext e;show l
 |tl t a=>ext e;show t _ _ rfl
 |kd w k c r=>cases w with|vr=>ext e;show v _ _ _ rfl|_=>ext e
 |_=>ext e
def AL.items (e:items ao=some xs)(r:AL P W γ h ao a):∃its,h.PlainList a its/\AY γ h xs its.toList:=by
 show AAS (R:=λao=>AL P W γ h ao a->_) e ?_ ?_ ?_ r
 · rintro⟨o,vs,ho,⟨n,rfl⟩,q⟩;show⟨_,⟨n,ho⟩,q⟩
 · rintro t b rfl ⟨o,vs,ho,⟨n,rfl⟩,q⟩;show⟨_,⟨n,ho⟩,q⟩
 · rintro k c d rfl ⟨o,vs,ho,⟨n,rfl⟩,q⟩;show⟨_,⟨n,ho⟩,q⟩
def AL.ofItems {its:Array Value}(e:Internal.items ao=some xs)(hp:h.PlainList a its)(r:AY γ h xs its.toList):AL P W γ h ao a:=by
 obtain⟨n,ho⟩:=hp;show AAS (R:=λao=>AL P W γ h ao a) e ?_ ?_ ?_
 · show⟨_,its.toList,ho,⟨n,rfl⟩,r⟩
 · rintro t b rfl;show⟨_,its.toList,ho,⟨n,rfl⟩,r⟩
 · rintro k c d rfl;show⟨_,its.toList,ho,⟨n,rfl⟩,r⟩
end
def Dz (σ:AC)(a:AV)(k:Nat->AO->List AV->Prop):=Cj σ a λi ao=>AD (items ao) λxs=>k i ao xs
@[elab_as_elim] theorem Cc {S:St} {c:At S} {a:AV} {v:Value} {P:Value->Prop} {k:Nat->AO->List AV->Prop} (h:Dz c.σ a k) (r:c.VR a v)
 (q:∀i ao xs ad its,c.γ[i]?=some ad->live c.σ i ao->items ao=some xs->c.h.PlainList ad its->AY c.γ c.h xs its.toList->xs.length=its.size->k i ao xs->P (.ref ad)):P v:=
 Al h r λi ao ad b e r h=>AA h λxs ex h=>AH (r.items ex) λits hp hx=>q i ao xs ad its b e ex hp hx (hx.length.trans Ej) h
structure small (i:Int):Prop where
 lo: -1073741824<i
 hi:i<1073741824
theorem AAe {i:Int}(h:small i):Builtin.Int.intBits i<=64:=intBits_le_64 (by have:=h.1;lia) (by have:=h.2;lia)
def KC (n:Nat)(p:Prop):=As (Nat.ble n 1000) p
theorem BF {n}{p}(h:KC n p):n<=1000/\p:=let ⟨a,b⟩:=F5 h;⟨DF a,b⟩
def binI (op:Operator)(i j:Int)(k:Int->Prop):Prop:=match op with|.Add=>k (i+j)|.Sub=>k (i-j)|.Mult=>small i/\k (i * j)|.FloorDiv=>(j≠0/\small j)/\k (i.fdiv j)|.Mod=>j≠0/\k (i.fmod j)|_=>False
def jp (t:Dt):Option Nat:=match t with|.tp n=>some n|_=>none
def Lj {t u:Ty}(h:t.ctorIdx=u.ctorIdx):u=t:=by cases t<;>cases u<;>first|rfl|cases h
def IK (o:AO):Option (Ty×List El):=match o with|.tl t xs=>some (t,xs)|_=>none
def Lk (o:AO):Option (List AV):=match o with|.list xs=>some xs|_=>none
def Bf {o}{x}(e:IK o=some x):o=.tl x.1 x.2:=by
 show Ap (p:=λx=>o=.tl x.1 x.2) ?_ e;cases o<;>trivial
def BQ {o}{x}(e:Lk o=some x):o=.list x:=by
 show Ap (p:=λx=>o=.list x) ?_ e;cases o<;>trivial
def bR (l:List AV):Option (List El):=match l with|[]=>some []|a::l=>Br (M8 a) λs=>Br (bR l) λes=>some (⟨false,[],0,0,s⟩::es)
def Xl {γ}{h}{l}:∀ {es:List El} {vs:List Value},bR l=some es->AY γ h l vs->AY γ h (es.map (Ch .str)) vs:=by
 induction l with
 |nil=>intro es vs e r;ext e;show r
 |cons a l ih=>
  intro es vs e ⟨v,b,c,r,rs⟩;show AI e λs es e=>AI e λg d e=>by
   ext e;show AI es λt f es=>by
    rw[DM f,D6 es] at r;show⟨v,b,c,r,ih d rs⟩
def q6 (a b:AO)(k:AO->Prop):Prop:=
 AW (Lk a) (λxs=>AD (items b) λc=>k (.list (xs++c))) (AD (IK a) λx=>AW (IK b) (λy=>As (Nat.beq x.1.ctorIdx y.1.ctorIdx) (k (.tl x.1 (x.2++y.2))))
  (AD (Lk b) λm=>As (Nat.beq x.1.ctorIdx Ty.str.ctorIdx) (AD (bR m) λes=>k (.tl .str (x.2++es)))))
def wv (t u:Dt)(k:Dt->Prop):Prop:=
 AW (QM t) (λi=>AD (QM u) λj=>k (.int (i+j)))
 (AW (jI t) (λx=>AD (jI u) λy=>x.length+y.length<=1000/\k (.str (x++y)))
 (AW (Nd t) (λd=>AD (Nd u) λe=>d.length<=1000/\e.length<=1000/\k (.dom (d++e)))
 (AW (JS t) (λxs=>AD (JS u) λa=>KC xs.length (KC a.length (k (.tup (xs++a)))))
 (AD (jp t) λn=>AD (JS u) λa=>KC n (KC a.length (k (.tp (n+a.length))))))))
def ww (op:Operator)(a b:AV)(σ:AC)(k:DK):Prop:=match op with
 |.Add=>AW (Ff a) (λt=>AD (Ff b) λu=>wv t u λr=>k (.d r) σ)
   (Dz σ a λZ ao xs=>Dz σ b λZ c d=>xs.length<=1000/\d.length<=1000/\q6 ao c λo=>k (.ref σ.length) (σ++[some o]))
 |op=>AD (Cp a) λi=>AD (Cp b) λj=>binI op i j λr=>k (.d (.int r)) σ
def add_tuples {prog}{w}{A}{E}{s}{x y}{xs j}{Q}(hx:s.heap.IsTuple x xs)(p:s.heap.IsTuple y j)(hz:xs.size+j.size<=sizeLine)
 (h:∀(h':Heap) (z:Addr),(∀b o,s.heap.get? b=some o->h'.get? b=some o)->h'.IsTuple z (xs++j)->Q (.ref z) {s with heap:=h'}):wpAny (model prog w) A (binaryOp .Add (.ref x) (.ref y)) Q E s:=by
  obtain⟨⟨cls,i,data,k⟩,ho,hc,n,hd⟩:=id hx;obtain⟨⟨q,c,data2,d⟩,a,f,l,g⟩:=id p;simp only at hc hd f g;subst hc hd f g
  by_cases e1:xs.isEmpty
  · have:xs= #[]:=by simpa using e1
    subst this;show concat_meets ⟨_,ho,rfl⟩ ⟨_,a,rfl⟩ noFill_tuple_add seq_tuple_add PySem.F.slot_tuple_add PySem.F.entry_tuple_add (PySem.F.args_tuple_add_2 _ _) (tuple_addW0 x y _ j n l i c k d e1) ⟨ho,a,?_⟩;show h s.heap y (λZ Z e=>e) (by simpa using p)
  · by_cases m:j.isEmpty
    · have:j= #[]:=by simpa using m
      subst this;show concat_meets ⟨_,ho,rfl⟩ ⟨_,a,rfl⟩ noFill_tuple_add seq_tuple_add PySem.F.slot_tuple_add PySem.F.entry_tuple_add (PySem.F.args_tuple_add_2 _ _) (tuple_addW1 x y xs _ n l i c k d e1 m) ⟨ho,a,?_⟩;show h s.heap x (λZ Z e=>e) (by simpa using hx)
    · show concat_meets ⟨_,ho,rfl⟩ ⟨_,a,rfl⟩ noFill_tuple_add seq_tuple_add PySem.F.slot_tuple_add PySem.F.entry_tuple_add (PySem.F.args_tuple_add_2 _ _) (tuple_addW2 x y xs j n l i c k d e1 m hz) ⟨ho,a,?_⟩;show h _ _ (λb o e=>JQ _ e) ⟨_,J6 _ rfl,rfl,0,rfl⟩
section
variable {S:St}{A:Around}{c:At S}
def Xm {a b:AO}{k}{P:Prop}(h:q6 a b k){xs j}(c:items a=some xs)(d:items b=some j)(q:∀o g,items o=some g->(∀γ (h:Heap) v w,AY γ h xs v->AY γ h j w->AY γ h g (v++w))->k o->P):P:=by
 show AE h (λl e h=>AA h λm f h=>?_) λh=>AA h λx e h=>AE h (λy f h=>AG h λw h=>?_) λh=>AA h λm f h=>AG h λw h=>AA h λes i hk=>?_
 · cases BQ e;ext c;cases d.symm.trans f;show q _ _ rfl (λZ Z Z Z x y=>x.append y) h
 · rw[Bf e] at c;rw[Bf f] at d;ext c;ext d;show q _ _ ?_ (λZ Z Z Z x y=>x.append y) h;show(show y.1=x.1 from Lj (LJ w))▸?_;show congrArg some (Zf ..)
 · rw[Bf e,<-Lj (LJ w)] at c;rw[BQ f] at d;ext c;ext d;show q _ _ (show items (.tl .str (_++es))=some ((_++es).map (Ch .str)) from rfl) (λZ Z Z Z x y=>?_) hk;show(Zf)▸?_;show x.append (Xl i y)
def At.newList (c:At S){o:AO}{xs:List AV}{its:Array Value}(e:items o=some xs)(r:AY c.γ c.h xs its.toList):At S:=
 c.new (a:=c.h.objs.size) (h':=c.h.push {cls:=.type "list",data:=.seq its}) c.s.toks (Bw _) (λZ Z e=>JQ _ e) (.ofItems e ⟨0,J6 _ rfl⟩ (r.mono ⟨_,rfl⟩ (.keeps λZ Z e=>JQ _ e)))
variable {E:F3}{Q:F3}
def V1 {op}{i j}{t u}{k}(h:binI op i j k)(q:∀r t a,k r->Q (.int r t) (c.tok a).s):wpAny S.mdl A (binaryOp op (.int i t) (.int j u)) Q E c.s:=by
 cases op with
 |Add=>show P.add_int (q _ _ _ h)
 |Sub=>show P.sub_int (q _ _ _ h)
 |Mult=>show P.mul_int (q _ _ _ h.2) (IntMulOk.of_left (AAe h.1))
 |FloorDiv=>show floordiv_int h.1.1 (q _ _ _ h.2) (.inl (PyProof.noPylong_small (by have:=h.1.2.1;have:=h.1.2.2;omega)))
 |Mod=>show mod_int' h.1 (q _ _ _ h.2)
 |_=>show h.elim
theorem Oy {t u r:Dt}{k}{x y:Addr}{xs a:Array Value}(hx:c.h.IsTuple x xs)(d:c.h.IsTuple y a)(hz:xs.size<=1000)(f:a.size<=1000)(hk:k (.d r) c.σ)
 (m:∀h' z,TK c.h h'->h'.IsTuple z (xs++a)->Ah h' r (.ref z)):WV A c (binaryOp .Add (.ref x) (.ref y)) k:=
  λZ Z q=>add_tuples hx d (by show(KY)▸?_;lia) λh' z b g=>q _ (c.grow c.s.toks b) _ hk (c.le_grow ..) (m h' z (.keeps b) g)
@[elab_as_elim] def Ng {h:Heap} {t:Dt} {d:Cf} {v:Value} {P:Value->Prop} (e:Nd t=some d) (r:Ah h t v) (q:∀ad its,h.IsTuple ad its->Dk h d its.toList->P (.ref ad)):P v:=by
 cases t with
 |dom=>ext e;show Bj r λZ Z a b hx=>?_;subst a;show q _ _ b hx
 |tup l=>cases l with|nil=>ext e;show Bj r λZ Z a b hx=>?_;subst a;show q _ _ b hx|cons=>ext e
 |_=>ext e
@[elab_as_elim] def bS {h:Heap} {t:Dt} {n:Nat} {v:Value} {P:Value->Prop} (e:jp t=some n) (r:Ah h t v) (q:∀ad its,h.IsTuple ad its->its.size<=n->P (.ref ad)):P v:=by
 cases t with
 |tp=>ext e;show Bj r λZ Z a b hx=>?_;subst a;show q _ _ b hx
 |_=>ext e
def jq {t u:Dt}{n o:Value}{k:DK}(f:Ah c.h t n)(g:Ah c.h u o)(h:wv t u λr=>k (.d r) c.σ):WV A c (binaryOp .Add n o) k:=by
 show AE h (λi e h=>AA h λj a h=>?_) λh=>AE h (λi e h=>AA h λj a h=>?_) λh=>AE h (λi e h=>AA h λj a h=>?_) λh=>
  AE h (λi e h=>AA h λj a h=>?_) λh=>AA h λi e h=>AA h λj a h=>?_
 · show AAX e f λt=>AAX a g λu E Q q=>V1 (op:=.Add) (k:=λr=>k (.d (.int r)) c.σ) h λr t p hk=>q _ (c.tok p) _ hk (c.le_tok _) ⟨_,rfl⟩
 · show Ot e f λt=>Ot a g λu E Q q=>PySem.SB.add (λp v=>q (.d (.str (i++j))) (c.tok v) _ h.2 (c.le_tok _) ⟨_,rfl⟩) (by rw[KY];have:=h.1;lia)
 · show Ng e f λx xs hx b=>Ng a g λy s l d=>Oy (t:=t) (u:=u) (r:=.dom (i++j)) hx l (by rw[<-Ej,<-b.length];show h.1) (by rw[<-Ej,<-d.length];show h.2.1) h.2.2
    λh' z tk m=>⟨_,_,rfl,m,by rw[ui];show(b.mono tk).append (d.mono tk)⟩
 · show Dy e f λx xs hx b=>Dy a g λy s l d=>Oy (t:=t) (u:=u) (r:=.tup (i++j)) hx l (by rw[<-Ej,<-b.length];show(BF h).1) (by rw[<-Ej,<-d.length];show(BF (BF h).2).1) (BF (BF h).2).2
    λh' z tk m=>⟨_,_,rfl,m,by rw[ui];show(b.mono tk).append (d.mono tk)⟩
 · show bS e f λx xs hx b=>Dy a g λy s l d=>Oy (t:=t) (u:=u) (r:=.tp (i+j.length)) hx l (EX b (BF h).1) (by rw[<-Ej,<-d.length];show(BF (BF h).2).1) (BF (BF h).2).2
    λh' z tk m=>⟨_,_,rfl,m,by rw[Array.size_append,d.length,Ej];show Nat.add_le_add_right b _⟩
theorem bT {a b:AV}{k:DK}{j l:Value}(r:c.VR a j)(s:c.VR b l)(h:Dz c.σ a λZ ao xs=>Dz c.σ b λZ m p=>xs.length<=1000/\p.length<=1000/\q6 ao m λo=>k (.ref c.σ.length) (c.σ++[some o])):WV A c (binaryOp .Add j l) k:=
 Cc h r λZ ao xs ad its Z Z ex hp hx l1 h=>Cc h s λZ m p x d Z Z t i u l2 h E Q q=>by
  obtain⟨n,ho⟩:=hp;obtain⟨v,g⟩:=i;show concat_meets ⟨_,ho,rfl⟩ ⟨_,g,rfl⟩ noFill_list_add seq_list_add PySem.F.slot_list_add PySem.F.entry_list_add (PySem.F.args_list_add_2 _ _) (list_addW _ _ its d n v none none #[] #[] (by show(KY)▸?_;have:=h.1;have:=h.2.1;lia)) ⟨ho,g,?_⟩;show Xm h.2.2 ex t λo y w f h=>q _ (c.newList (its:=its++d) w (by show(ui)▸?_;show f _ _ _ _ hx u)) _ h (c.le_new ..) ⟨_,rfl,c.new_ref _⟩
def jr {op}{a b}{k}{C H}(d:c.VR a C)(f:c.VR b H)(h:ww op a b c.σ k):WV A c (binaryOp op C H) k:=by
 have g:(AD (Cp a) λi=>AD (Cp b) λj=>binI op i j λr=>k (.d (.int r)) c.σ)->WV A c (binaryOp op C H) k:=λh=>
  AA h λi e h=>AA h λj l h=>A9 e d λt=>A9 l f λu E Q q=>V1 h λr t m hk=>q _ (c.tok m) _ hk (c.le_tok _) ⟨_,rfl⟩
 cases op with
 |Add=>show AE h (λt e h=>AA h λu l h=>jq (A8 e d) (A8 l f) h) (bT d f)
 |_=>show g h
end
end
section
open PySem PySem.W PySem.Spec PySem.Calls PyProof.Rows
open AutoSeq1 (wpAny_loadPart')
open PySem.SeqAt
def jJ (x:Value):Bool:=match x with|.none=>true|_=>false
def nc (t:Dt):Option Bool:=match t with|.any=>none|.sel _ _=>none|.v x=>some (jJ x)|_=>some false
def V2 (a:AV):Option Bool:=match a with|.d t=>nc t|_=>some false
def q7 x:(x==.none)=jJ x:=by cases x<;>rfl
def bU (r:Ah h t v):Option.rec True (λb=>(v==Value.none)=b) (nc t):=by
 cases t with
 |any=>trivial
 |sel=>trivial
 |v x=>ext r;show q7 _
 |pr p=>ext r;cases p<;>rfl
 |int i=>obtain⟨_,rfl⟩:=r;rfl
 |str i=>obtain⟨_,rfl⟩:=r;rfl
 |_=>show Hi r λZ Z a Z=>?_;subst a;rfl
def bV {S}{c:At S}{a}{v}{b}(e:V2 a=some b)(r:c.VR a v):(v==Value.none)=b:=by
 cases a with
 |ref=>show AH r λZ f Z=>?_;subst f;cases e;rfl
 |d t=>show Ap (p:=λb=>(v==Value.none)=b) (bU r) e
 |mt=>show Hi r λZ Z f Z=>?_;subst f;cases e;rfl
def Tn (op:CmpOp)(i j:Int):Option Bool:=match op with|.Lt=>some (decide (i<j))|.LtE=>some (decide (i<=j))|.Gt=>some (decide (i>j))|.GtE=>some (decide (i≥j))|_=>none
def Tp (t:Ty):Bool:=match t with|.str=>true|_=>false
def bW (a b:AO):Option Bool:=Option.rec
 (Br (items a) λxs=>Br (Lk b) λc=>Br (Hs xs) λl=>Br (Hs c) λm=>EO l m 7)
 (λx=>Option.rec (Br (Lk b) λc=>Bool.rec none (some x.2.isEmpty) c.isEmpty) (λy=>Bool.rec none (some (decide (x.2.map (·.s)=y.2.map (·.s)))) (Tp x.1&&Tp y.1)) (IK b)) (IK a)
def JX {α β:Type}{o:Option α}{n:Option β}{s:α->Option β}{r:β}{P:Prop}(e:Option.rec n s o=some r)(h:o=none->n=some r->P)(h':∀x,o=some x->s x=some r->P):P:=by
 cases o with
 |none=>show h rfl e
 |some x=>show h' x rfl e
def Eb (e:(Bool.rec none o b:Option α)=some r):b/\o=some r:=by
 cases b with
 |true=>show⟨rfl,e⟩
 |false=>ext e
def jt:∀xs a:List El,EO (xs.map (Ti .str)) (a.map (Ti .str)) 7=some (decide (xs.map (·.s)=a.map (·.s))):=by
 intro d
 induction d with
 |nil=>intro e;cases e<;>rfl
 |cons p d ih=>
  intro e;cases e with
  |nil=>rfl
  |cons q e=>
   change Vx (some (Vw p.s q.s)) (EO (d.map (Ti .str)) (e.map (Ti .str)) 7)=_;rw[ih e,Qk];show congrArg some ?_;rw[Bool.eq_iff_iff];simp
section
variable {S:St}{A:Around}{c:At S}
def Ll {h:Heap}{γ:List Addr}{t:Ty}{xs:List El}:∀ {vs:List Value},AY γ h (xs.map (Ch t)) vs->Ad h (xs.map (Ti t)) vs:=by
 induction xs with
 |nil=>show λr=>r
 |cons x xs ih=>show λ⟨v,a,e,r,rs⟩=>⟨v,a,e,r,ih rs⟩
def Nh (h:Tp t):t=.str:=by cases t<;>first|rfl|ext h
def Qm {a b:AO}{r:Bool}{P:Prop}{xs i:List AV}(e:bW a b=some r)(f:items a=some xs)(d:items b=some i)
 (q:∀l m,(∀ {γ:List Addr} {h:Heap} {vs:List Value},AY γ h xs vs->Ad h l vs)->(∀ {γ:List Addr} {h:Heap} {vs:List Value},AY γ h i vs->Ad h m vs)->EO l m 7=some r->P):P:=by
 show JX e (λe0 c=>AI c λZ e1 c=>AI c λZ g c=>AI c λl j c=>AI c λm k n=>?_) λx e1 e=>JX e (λZ e=>AI e λp g e=>?_) λy g e=>?_
 · cases f.symm.trans e1;rw[BQ g] at d;ext d;show q l m (Ea j) (Ea k) n
 · obtain⟨hz,e⟩:=Eb e;rw[Bf e1] at f;rw[BQ g] at d;ext f;ext d;cases NU.mp hz;show q _ [] Ll (λr=>r) ?_;ext e;cases x.2<;>rfl
 · obtain⟨hz,e⟩:=Eb e;have h1:=aL hz;have o:=aR hz;rw[Bf e1,Nh h1] at f;rw[Bf g,Nh o] at d;ext f;ext d;show q _ _ Ll Ll ((jt x.2 y.2).trans e)
def Tq (hp:s.heap.IsList x xs)(d:s.heap.IsList y j)(hx:Ad s.heap l xs.toList)(h:Ad s.heap m j.toList)(e:EO l m 7=some r)(k:A.units+8<cLine):
 RcAt A s (.ref x) (.ref y) r/\RcNeAt A s (.ref x) (.ref y) (!r):=by
 show AH (KA e) λe h1 g=>?_;have he:=Ql (A:=A.in1) (λa b c=>(Ox (s:=s) 7 (A:=A.in1) (by change A.units+1+7<cLine;lia) a b c).eq) h1 hx h;have l1:=hx.length.trans Ej;have l2:=h.length.trans Ej;cases f:xs.size==j.size with
 |true=>
  have f:=Fz.mp f;have k1:=RcAt.lists (A:=A) (s:=s) (e:=e) hp d f (by lia) he;have i:=RcNeAt.lists (A:=A) (s:=s) (e:=e) hp d f (by lia) he;rw[l1,l2,f,Nat.min_self,uK,jL] at g;rw[f,g] at k1 i;show⟨k1,i⟩
 |false=>
  rw[l1,l2,f,pk] at g;subst g;have hz:(xs.size !=j.size):=by unfold bne;show(f)▸?_;rfl
  show⟨RcAt.lists_lengths hp d hz (by lia),RcNeAt.lists_lengths hp d hz (by lia)⟩
def eqQ (σ:AC)(a b:AV)(k:Bool->Prop):Prop:=
 AW (Ff a) (λt=>AW (Ff b) (λu=>AD (zE t u) k) (AD (Zi t) λx=>As (jJ x) (Dz σ b λZ Z Z=>k false)))
  (Dz σ a λZ ao Z=>Dz σ b λZ c Z=>AD (bW ao c) k)
def Io (h:jJ x):x=.none:=by cases x<;>first|rfl|ext h
def Qn {a b:AV}{i d:Value}{k}(B:A.units+11<cLine)(j:c.VR a i)(n:c.VR b d)(h:eqQ c.σ a b k){P:Prop}(q:∀r,RcAt A c.s i d r->RcNeAt A c.s i d (!r)->k r->P):P:=by
 show AE h (λt e h=>AE h (λu s h=>AA h λr er h=>?_) λh=>AA h λx ex h=>AG h λhn h=>?_) λh=>?_
 · show let z:=bQ (A:=A) (by lia) (A8 e j) (A8 s n) er;q r z.rc z.ne h
 · show Ou (P:=λi=>(∀r,RcAt A c.s i d r->RcNeAt A c.s i d (!r)->k r->P)->P) ex (A8 e j) (λq=>?_) q;cases Io hn;show Cc (P:=λd=>(∀r,RcAt A c.s .none d r->RcNeAt A c.s .none d (!r)->k r->P)->P) h n (λZ Z Z Z Z Z Z Z hp Z Z h q=>q false (.none_list hp.isList (by lia)) (.none_list hp.isList (by lia)) h) q
 · show Cc (P:=λi=>(∀r,RcAt A c.s i d r->RcNeAt A c.s i d (!r)->k r->P)->P) h j (λZ ao xs ad its Z Z ex hp hx Z h q=>?_) q;show Cc (P:=λd=>(∀r,RcAt A c.s (.ref ad) d r->RcNeAt A c.s (.ref ad) d (!r)->k r->P)->P) h n (λZ C D E p Z Z v o w Z h q=>?_) q;show AA h λr er h=>Qm er ex v λl m f g e=>?_;obtain⟨k1,y⟩:=Tq (A:=A) hp.isList o.isList (f hx) (g w) e (by lia);show q r k1 y h
def hitsD (l:List Dt)(t:Dt):Option Bool:=match l with|[]=>some false|y::r=>Br (zE y t) λb=>Br (hitsD r t) λc=>some (b||c)
def bX:∀ {ps:List (Value×Bool)},(∀p∈ps,EqAt A s p.1 w p.2)->∃e:Value->Bool,(∀p∈ps,EqAt A s p.1 w (e p.1))/\(ps.map (·.1)).any e=ps.any (·.2):=by
 open Classical in
 intro ps h;show⟨λv=>decide (∃p∈ps,p.1=v/\p.2),λp hp=>?_,?_⟩
 · by_cases q:∃a∈ps,a.1=p.1/\a.2
   · show Ek q λa h1 b h3=>?_;have:=h a h1;rw[b,h3] at this;change EqAt A s p.1 w (decide _);rw[Fy (show ∃a∈ps,a.1=p.1/\a.2=true from ⟨a,h1,b,h3⟩)];show this
   · change EqAt A s p.1 w (decide _);show(Zr q)▸?_;have:=h p hp;cases e:p.2 with|false=>rw[e] at this;show this|true=>show absurd ⟨p,hp,rfl,e⟩ q
 · rw[Bool.eq_iff_iff,List.any_eq_true,List.any_eq_true]
   constructor
   · rintro⟨v,_,hv⟩;show Ek (AAL hv) λp hp Z e=>?_;show⟨p,hp,e⟩
   · rintro⟨p,hp,e⟩;show⟨p.1,Zs.mpr ⟨p,hp,rfl⟩,Fy ⟨p,hp,rfl,e⟩⟩
def Tr (a:A.units+8<cLine)(c:Ah s.heap t w):∀ {l:List Dt} {vs:List Value} {r:Bool},Ad s.heap l vs->hitsD l t=some r->∃ps:List (Value×Bool),ps.map (·.1)=vs/\ps.any (·.2)=r/\∀p∈ps,EqAt A s p.1 w p.2:=by
 intro l
 induction l with
 |nil=>intro vs r e h;ext e;ext h;show⟨[],rfl,rfl,λp h=>by ext h⟩
 |cons y l ih=>
  rintro vs r ⟨v,m,rfl,f,rs⟩ h
  show AI h λb g h=>AI h λd i h=>?_;show Ek (ih rs i) λps j k h3=>?_;subst j;subst k;ext h;show⟨(v,b)::ps,rfl,rfl,λp hp=>?_⟩
  rcases QP.mp hp with rfl|hp
  · show(bQ a f c g).eq
  · show h3 p hp
def Qo {s:Shared}{t:Dt}{w:Value}{its:Array Value}{l}{r:Bool}(c:A.units+8<cLine)(d:Ah s.heap t w)(rs:Ad s.heap l its.toList)(h:hitsD l t=some r):∃e:Value->Bool,(∀y∈its,EqAt A s y w (e y))/\its.any e=r:=by
 show Ek (Tr c d rs h) λps h1 a h3=>?_;subst a;show AH (bX h3) λe f g=>?_;show⟨e,λy b=>?_,?_⟩
 · rw[<-Array.mem_toList_iff,<-h1] at b;show AH (Zs.mp b) λp hp a=>?_;subst a;show f p hp
 · rw[<-Array.any_toList,<-h1,g]
def inQ (σ:AC)(a b:AV)(k:Bool->Prop):Prop:=AD (Ff a) λt=>
 AW (Ff b) (λu=>AD (JS u) λl=>AD (hitsD l t) k) (Dz σ b λZ Z c=>AD (Hs c) λl=>AD (hitsD l t) k)
def bY {a b}{j C}{k}(p:A.units+11<cLine)(i:c.VR a j)(m:c.VR b C)(h:inQ c.σ a b k) not E Q
 (q:∀r,k r->Q (.bool (r ^^ not)) c.s):wpAny S.mdl A (compareOp (cond not .NotIn .In) j C) Q E c.s:=by
  show AA h λt e h=>AE h (λu o h=>AA h λl d h=>AA h λr er h=>?_) λh=>?_
  · show Dy d (A8 o m) λad its n rs=>?_;show AH (Qo (A:=A.in1) (by change A.units+1+8<cLine;lia) (A8 e i) rs er) λf h1 g=>?_;have q:=q r h;subst g;cases not with|false=>rw[Bool.xor_false] at q;show in_tupleAt f n h1 q|true=>rw[Bool.xor_true] at q;show notIn_tupleAt f n h1 q
  · show Cc h m λZ ao xs ad its Z Z Z hp hx Z h=>AA h λl d h=>AA h λr er h=>?_;show AH (Qo (A:=A.in1) (by change A.units+1+8<cLine;lia) (A8 e i) (Ea d hx) er) λf h1 g=>?_;have q:=q r h;subst g;cases not with|false=>rw[Bool.xor_false] at q;show in_listAt f hp.isList h1 q|true=>rw[Bool.xor_true] at q;show notIn_listAt f hp.isList h1 q
theorem bZ l b items a n C H j J u:
 Meets (Builtin.«tuple.__lt__» ⟨[.ref l,.ref b],[]⟩)
  (λA R s=>s.heap.get? l=some {cls:=.type "tuple",dict:=H,data:=.seq items n,slots:=J}/\s.heap.get? b=some {cls:=.type "tuple",dict:=j,data:=.seq a C,slots:=u}/\
    (∀p∈items.toList.zip a.toList,EqAt A.in1 s p.1 p.2 true)/\R (.ok (.ret (.bool (decide (items.size<a.size))))) s):=
 .of_wp λprog w A R s h=>by
  obtain⟨hp,g,d,tk,os⟩:=s;show M2 h λhl hb he h=>?_;have i:=AutoSeq1.sub_tuple_tuple
  wp_walk using wpAny_loadPart' hl,wpAny_loadPart' hb,wpAny_forIn_list _ (λc b s'=>b.1=none/\s'=⟨hp,g,d,tk,os⟩/\∀p∈c,p∈items.toList.zip a.toList) _
  case turn=>
   rintro⟨y,x⟩ c b s' ⟨f,rfl,hz⟩
   show An (he (y,x) (hz _ (Sg ..)) prog w _ _ ?_)
   wp_walk
   show⟨rfl,rfl,λp hp=>hz p (Zo _ hp)⟩
  case fin=>
   rintro⟨b1,k⟩ s' ⟨f,rfl,_⟩
   simp only at f;subst f
   wp_walk
   show⟨_,rfl,by simpa [Builtin.Tuple.tupleCompareSizes] using h⟩
  case h=>
   show⟨rfl,rfl,λp hp=>hp⟩
def q8 {l:List Dt}{h:Heap}{P:Value->Value->Prop}(H:∀ {t u:Dt} {v w:Value},Ah h t v->Ah h u w->Li t u 0=some true->P v w):∀ {m:List Dt} {vs c:List Value},Ad h l vs->Ad h m c->EO l m 0=some true->(∀p∈vs.zip c,P p.1 p.2)/\vs.length=c.length:=by
 induction l with
 |nil=>
  intro m vs c a b e;cases a;cases m with
  |nil=>cases b;show⟨λZ h=>(nomatch h),rfl⟩
  |cons=>cases e
 |cons t l ih=>
  intro m vs c a b e;cases m with
  |nil=>cases e
  |cons u m=>
   obtain⟨v,vs,rfl,a,as⟩:=a;obtain⟨w,c,rfl,b,d⟩:=b;obtain⟨x,y,e1,f,g⟩:=IJ e;obtain⟨rfl,rfl⟩:=DQ.mp g.symm;obtain⟨h1,i⟩:=ih as d f;show⟨λp hp=>?_,congrArg (· +1) i⟩
   rcases QP.mp hp with rfl|hp
   · show H a b e1
   · show h1 p hp
def bb (a b:AV)(k:Prop):=AD (Br (Ff a) JS) λl=>AD (Br (Ff b) JS) λm=>AD (EO l m 0) λr=>As r k
theorem Xn {a b:AV}{p s:Value}{k:Prop}(T:A.units+11<cLine)(z:c.VR a p)(B:c.VR b s)(h:bb a b k){E:F3}{Q:F3}(q:k->Q (.bool false) c.s):wpAny S.mdl A (compareOp .Lt p s) Q E c.s:=
 AA h λl e1 h=>AA h λm C h=>AA h λr D h=>AG h λhr h=>AI e1 λt G H=>AI C λu I J=>by
  subst hr;show Dy H (A8 G z) λl its hl hx=>Dy J (A8 I B) λb d hb K=>?_;obtain⟨h1,L⟩:=q8 (P:=λv w=>EqAt A.in1 c.s v w true) (λa b e=>(Ox 0 (A:=A.in1) (by change A.units+1+0<cLine;lia) a b e).eq) hx K D;have M:its.size=d.size:=by rw[<-Ej,<-Ej];show L
  obtain⟨⟨cls,N,data,O⟩,ho,hc,n,hd⟩:=id hl;obtain⟨⟨y,j,data2,o⟩,f,g,R,i⟩:=id hb;simp only at hc hd g i;subst hc hd g i;show richCompare_meets_room (op:=.Lt) ⟨_,ho,rfl⟩ ⟨_,f,rfl⟩ F.slot_tuple_lt F.entry_tuple_lt (F.args_tuple_lt_2 _ _) (bZ l b its d n R N j O o)
   ⟨ho,f,h1,show Value.bool (decide (its.size<d.size))≠Value.notImplemented/\Q (.bool (decide (its.size<d.size))) c.s from ⟨nofun,?_⟩⟩ (by lia)
  rw[M,show decide (d.size<d.size)=false from Zr (Zq _)];show q h
def ba (b:Bool):AV:=.d (.v (.bool b))
def Xo (op:CmpOp)(a b:AV)(σ:AC)(k:DK):Prop:=match op with|.Is=>AD (V2 a) λr=>AD (Br (Ff b) Zi) λx=>As (jJ x) (k (ba r) σ)|.IsNot=>AD (V2 a) λr=>AD (Br (Ff b) Zi) λx=>As (jJ x) (k (ba (!r)) σ)|.Eq=>eqQ σ a b λr=>k (ba r) σ|.NotEq=>eqQ σ a b λr=>k (ba (!r)) σ|.In=>inQ σ a b λr=>k (ba r) σ|.NotIn=>inQ σ a b λr=>k (ba (!r)) σ|.Lt=>AW (Cp a) (λi=>AD (Cp b) λj=>k (ba (decide (i<j))) σ) (bb a b (k (ba false) σ))|op=>AD (Cp a) λi=>AD (Cp b) λj=>AD (Tn op i j) λr=>k (ba r) σ
def Ni {op}{i j}{r}{t u}{E}(e:Tn op i j=some r){Q}(q:Q (.bool r) c.s):wpAny S.mdl A (compareOp op (.int i t) (.int j u)) Q E c.s:=by
 cases op with
 |Lt=>ext e;show P.lt_int q
 |LtE=>ext e;show P.le_int q
 |Gt=>ext e;show P.gt_int q
 |GtE=>ext e;show P.ge_int q
 |_=>ext e
def V3 {op:CmpOp}{a b:AV}{l d:Value}{k}(m:A.units+11<cLine)(f:c.VR a l)(g:c.VR b d)(h:Xo op a b c.σ k):WV A c (compareOp op l d) k:=by
 intro E Q q;have fin:∀r,k (ba r) c.σ->Q (.bool r) c.s:=λr hk=>q _ c _ hk (.refl c) rfl;have is:∀ {r:Bool} {p:Prop} {G:Value->Prop},V2 a=some r->(AD (Br (Ff b) Zi) λx=>As (jJ x) p)->(p->(l==Value.none)=r->G .none)->G d:=λe h q=>
  AA h λx n h=>AG h λhn h=>AI n λt e1 s=>Ou s (A8 e1 g) (Io hn▸q h (bV e f))
 have o:(AD (Cp a) λi=>AD (Cp b) λj=>AD (Tn op i j) λr=>k (ba r) c.σ)->wpAny S.mdl A (compareOp op l d) Q E c.s:=λh=>
  AA h λi e h=>AA h λj n h=>AA h λr er h=>A9 e f λt=>A9 n g λu=>Ni er (fin r h)
 cases op with
 |Is=>show AA h λr e h=>is (G:=λd=>wpAny S.mdl A (compareOp .Is l d) Q E c.s) e h λhk hr=>PySem.is_none (by show(hr)▸?_;show fin r hk)
 |IsNot=>show AA h λr e h=>is (G:=λd=>wpAny S.mdl A (compareOp .IsNot l d) Q E c.s) e h λhk hr=>PySem.isNot_none (by change Q (.bool (!(l==Value.none))) _;rw[hr];show fin _ hk)
 |Eq=>show Qn (A:=A) m f g h λr h1 Z hk=>h1 S.prog S.w E Q (fin r hk)
 |NotEq=>show Qn (A:=A) m f g h λr Z v hk=>v S.prog S.w E Q (fin _ hk)
 |In=>show bY m f g h false E Q λr hk=>by rw[Bool.xor_false];show fin r hk
 |NotIn=>show bY m f g h true E Q λr hk=>by rw[Bool.xor_true];show fin _ hk
 |Lt=>show AE h (λi e h=>AA h λj n h=>A9 e f λt=>A9 n g λu=>Ni (op:=.Lt) rfl (fin _ h)) λh=>Xn m f g h (fin _)
 |_=>show o h
def q9 (t:Dt):Option Bool:=match t with|.int i=>some (i !=0)|.v x=>Br (vk x) λp=>some (Option.rec false id p)|_=>none
def Gy (a:AV)(k:Bool->Prop):=AD (Br (Ff a) q9) k
def HL (r:c.VR a v)(h:Gy a λb=>k b c.σ):WB A c (truthy v) k:=by
 show AA h λb e h E Q q=>AI e λt e1 d=>?_;have r:=A8 e1 r;have q:=q b c b h (.refl c) rfl;cases t with
 |int i=>obtain⟨_,rfl⟩:=r;ext d;show P.truthy_int q
 |v x=>
  ext r;show AI d λp e1 d=>?_;show(Kk e1)▸?_;cases p with
  |none=>ext d;show truthy_none q
  |some x=>ext d;show wpAny_truthy_bool q
 |_=>ext d
def unA (op:UnaryOp)(a:AV)(σ:AC)(k:DK):Prop:=match op with|.USub=>AD (Cp a) λi=>k (.d (.int (-i))) σ|.Not=>Gy a λb=>k (ba (!b)) σ|_=>False
def rA (r:c.VR a v)(h:unA op a c.σ k):WV A c (unaryOp op v) k:=by
 intro E Q q;cases op with
 |USub=>show AA h λi e h=>A9 e r λt=>P.neg_int (q _ (c.tok _) _ h (c.le_tok _) ⟨_,rfl⟩)
 |Not=>show not_of (HL (k:=λb σ=>k (ba (!b)) σ) r h E _ λb c' d hk l e=>e▸q _ c' _ hk l rfl)
 |_=>show h.elim
end
end
section
open PySem PySem.W PySem.Spec PySem.Calls PyProof.Rows
section
variable {K:Type}{γ:List Addr}{h:Heap}
def By (γ:List Addr)(h:Heap)(es:List (K×AV))(kvs:List (K×Value)):=kvs.map (·.1)=es.map (·.1)/\AY γ h (es.map (·.2)) (kvs.map (·.2))
def By.uncons (r:By γ h (x::es) kvs):∃v a,kvs=(x.1,v)::a/\Cg γ h x.2 v/\By γ h es a:=by
 show Zv λb gk=>?_;show jl r λe v d c r rs=>?_;show gk ?_;clear gk b;cases kvs with
 |nil=>ext e
 |cons y kvs=>
  obtain⟨k,v'⟩:=y;cases c;rw[Zg,Zg,List.cons.injEq] at e;cases e.1;show⟨_,_,rfl,r,e.2,rs⟩
theorem By.cons (r:Cg γ h x.2 v)(rs:By γ h es kvs):By γ h (x::es) ((x.1,v)::kvs):=⟨by rw[Zg,Zg,rs.1],_,_,rfl,r,rs.2⟩
theorem By.nil (r:By γ h [] kvs):kvs=[]:=List.map_eq_nil_iff.mp r.1
def By.length (r:By γ h es kvs):kvs.length=es.length:=by
 have:=congrArg List.length r.1;rwa [Ei,Ei] at this
theorem By.mono (p:Ka γ γ')(k:TK h h')(r:By γ h es kvs):By γ' h' es kvs:=⟨r.1,r.2.mono p k⟩
variable [BEq K] [LawfulBEq K]
def put {β:Type}(x:K)(b:β)(l:List (K×β)):List (K×β):=match l with|[]=>[(x,b)]|y::r=>Bool.rec (y::put x b r) ((y.1,b)::r) (x==y.1)
theorem Qp (x:K)(b:β)(y:K×β)(r:List (K×β)):put x b (y::r)=Bool.rec (y::put x b r) ((y.1,b)::r) (x==y.1):=rfl
def ju {β:Type}{x z:K}{b:β}{y:K×β}{r:List (K×β)}:(put x b (y::r)).lookup z=Bool.rec (Bool.rec ((put x b r).lookup z) (some y.2) (z==y.1)) (Bool.rec (r.lookup z) (some b) (z==y.1)) (x==y.1):=by
 change (Bool.rec (y::put x b r) ((y.1,b)::r) (x==y.1):List (K×β)).lookup z=_;cases x==y.1<;>(dsimp only;rw[Sa];cases z==y.1<;>rfl)
def Lm {β:Type}(x z:K)(b:β):∀l:List (K×β),(put x b l).lookup z=Bool.rec (l.lookup z) (some b) (z==x):=by
 intro l
 induction l with
 |nil=>change List.lookup z [(x,b)]=_;rw[Sa];cases z==x<;>rfl
 |cons y r ih=>
  rw[ju,Sa];cases e:x==y.1 with
  |true=>rw[Fz.mp e];cases z==y.1<;>rfl
  |false=>
   rw[ih];cases a:z==y.1 with
   |false=>rfl
   |true=>
    have:(z==x)=false:=by rw[ug] at e ⊢;rw[Fz.mp a];show Ne.symm e
    rw[this]
def F6 (x:K)(b:β):∀l:List (K×β),(put x b l).length=Bool.rec (l.length+1) l.length (l.lookup x).isSome:=by
 intro l
 induction l with
 |nil=>rfl
 |cons y r ih=>
  change (Bool.rec (y::put x b r) ((y.1,b)::r) (x==y.1):List (K×β)).length=_;rw[Sa];cases x==y.1 with
  |true=>rfl
  |false=>change (put x b r).length+1=_;rw[ih];cases h:(r.lookup x).isSome<;>simp[h]
def By.lookup:∀ {kvs:List (K×Value)},By γ h es kvs->∀x,Option.rec (kvs.lookup x=none) (λav=>∃v,kvs.lookup x=some v/\Cg γ h av v) (es.lookup x):=by
 induction es with
 |nil=>intro kvs r x;cases r.nil;rfl
 |cons y es ih=>
  intro kvs r x;obtain⟨v,a,rfl,r,rs⟩:=r.uncons;rw[Sa,Sa];cases x==y.1 with
  |true=>show⟨v,rfl,r⟩
  |false=>show ih rs x
def By.get {es:List (K×AV)}{kvs:List (K×Value)}(r:By γ h es kvs){x:K}{av}(e:es.lookup x=some av):∃v,kvs.lookup x=some v/\Cg γ h av v:=by
 have:=r.lookup x;rw[e] at this;show this
def By.none {es:List (K×AV)}{kvs:List (K×Value)}(r:By γ h es kvs){x:K}(e:es.lookup x=none):kvs.lookup x=none:=by
 have:=r.lookup x;rw[e] at this;show this
def By.put (b:Cg γ h av v):∀ {kvs:List (K×Value)},By γ h es kvs->By γ h (Internal.put x av es) (Internal.put x v kvs):=by
 induction es with
 |nil=>intro kvs r;cases r.nil;show By.cons (x:=(x,av)) b r
 |cons y es ih=>
  intro kvs r;obtain⟨w,a,rfl,r,rs⟩:=r.uncons;change By γ h (Bool.rec (y::Internal.put x av es) ((y.1,av)::es) (x==y.1)) (Bool.rec ((y.1,w)::Internal.put x v a) ((y.1,v)::a) (x==y.1));cases x==y.1 with
  |true=>show By.cons (x:=(y.1,av)) b rs
  |false=>show By.cons r (ih rs)
end
section
variable {P:Program}{W:World}{γ:List Addr}{h:Heap}{a:Addr}
theorem AL.ns (r:AL P W γ h (.ns fs) a):∃kvs,By γ h fs kvs/\h.Ns a (λx=>kvs.lookup x)/\h.DictLe a kvs.length:=
 Bj r λZ Z ho k rs=>AH k λkvs e q=>⟨kvs,⟨e.1,e.2▸rs⟩,q h a ho⟩
def AL.ofNs (r:By γ h fs kvs)(hn:h.Ns a λx=>kvs.lookup x)(hz:h.DictLe a kvs.length):AL P W γ h (.ns fs) a:=by
 show Si hn λo es i ho hd hk hm=>?_;show⟨o,_,ho,⟨kvs,⟨r.1,rfl⟩,λh' j b=>⟨⟨o,es,i,b,hd,hk,hm⟩,λk d f c g=>by rw[b] at c;ext c;show hz o d f ho g⟩⟩,r.2⟩
def AL.inst {C}{d}(r:AL P W γ h (.inst C d) a):∃b,h.get? a=some (instObj C b)/\γ[d]?=some b:=by
 show Zv λc gk=>?_;obtain⟨o,vs,ho,⟨b,rfl,rfl⟩,v,g,e,⟨i,f,hd⟩,_⟩:=r;show gk ?_;clear gk c;ext e;ext f;show⟨_,ho,hd⟩
theorem AL.ofInst {C}{d}{j}(ho:h.get? a=some (instObj C j))(hd:γ[d]?=some j):AL P W γ h (.inst C d) a:=
 ⟨_,[.ref j],ho,⟨j,rfl,rfl⟩,_,_,rfl,⟨_,rfl,hd⟩,rfl⟩
def AL.cell (r:AL P W γ h (.cell (some av)) a):∃v,h.IsCell a (some v)/\Cg γ h av v:=by
 show Zv λb gk=>?_;obtain⟨o,vs,ho,⟨v,rfl,hd⟩,w,c,e,r,_⟩:=r;show gk ?_;clear gk b;ext e;show⟨v,⟨o,ho,hd⟩,r⟩
def AL.cell_any (r:AL P W γ h (.cell v) a):∃ov,h.IsCell a ov:=by
 show Bj r λo vs ho q Z=>?_;cases v with
 |none=>show⟨none,o,ho,q⟩
 |some av=>show AH q λv Z hd=>?_;show⟨some v,o,ho,hd⟩
theorem AL.ofCell (hc:h.IsCell a (some v))(r:Cg γ h av v):AL P W γ h (.cell (some av)) a:=
 AH hc λo ho hd=>⟨o,[v],ho,⟨v,rfl,hd⟩,v,[],rfl,r,rfl⟩
theorem AL.ofCell0 (hc:h.IsCell a none):AL P W γ h (.cell none) a:=AH hc λo ho hd=>⟨o,[],ho,hd,rfl⟩
end
structure Fr where
 scope:Scope
 lid:Nat
 cells:List (Str×Nat)
 clo:List (Str×Addr)
 qual:Str
 func:Option Addr
 code:Value
 fid:Nat
inductive Et (γ:List Addr):List (Str×Nat)->List (Str×Addr)->Prop|nil:Et γ [] []|cons {n:Str} {i:Nat} {a:Addr} {l:List (Str×Nat)} {l':List (Str×Addr)} (e:γ[i]?=some a) (r:Et γ l l'):Et γ ((n,i)::l) ((n,a)::l')
def Et.mono (p:Ka γ γ')(r:Et γ l j):Et γ' l j:=by
 induction r with
 |nil=>show .nil
 |cons e _ ih=>show .cons (p.get e) ih
def Et.lookup {γ}{x}{i}{l}{j}(r:Et γ l j):l.lookup x=some i->∃a,γ[i]?=some a/\∀z,(j++z).lookup x=some a:=by
 induction r with
 |nil=>intro h;ext h
 | @cons n _ a _ _ e r ih=>
   intro h;rw[Sa] at h;cases q:x==n with
   |true=>rw[q] at h;ext h;show⟨a,e,λz=>by rw[List.cons_append,Sa,q]⟩
   |false=>
    rw[q] at h;show AH (ih h) λa h1 b=>?_;show⟨a,h1,λz=>by rw[List.cons_append,Sa,q];show b z⟩
structure AR (γ:List Addr) (fr:Fr) (env:Env):Prop where
 kind:fr.scope.kind=.function
 is:∃L F cl,γ[fr.lid]?=some L/\γ[fr.fid]?=some F/\Et γ fr.cells cl/\
  env={scope:=fr.scope,locals:=L,globals:=mainGlobals,cells:=cl++fr.clo,qual:=fr.qual,func:=fr.func,code:=fr.code,frame:=some F,builtins:=builtinsNs}
theorem AR.mono (x:AR γ fr env)(p:Ka γ γ'):AR γ' fr env:=
 ⟨x.kind,Si x.is λL F cl h1 a h3 b=>⟨L,F,cl,p.get h1,p.get a,h3.mono p,b⟩⟩
structure Fn where
 fd:FuncData
 body:List Stmt
 params:List Str
structure Hj where
 glob:List (Str×AV)
 blt:List (Str×Pr)
 fns:List (Addr×Fn)
 meths:List (Addr×List (Str×Addr))
 absent:List (Addr×List Str)
structure FnOk (S:St) (f:Addr) (F:Fn):Prop where
 obj:∃o,S.h₀.get? f=some o/\o.data=.func F.fd
 rec_:S.h₀.CodeRec F.fd.code F.fd.qualname
 body:F.fd.body=.stmts F.body
 co:F.fd.scope.isCoroutine=false
 gen:F.fd.scope.isGenerator=false
 kind:F.fd.scope.kind=.function
 glob:F.fd.globals=mainGlobals
 blt:F.fd.builtins=builtinsNs
 bind:∀vals:List Value,vals.length=F.params.length->bindArgs F.fd ⟨vals,[]⟩=pure (F.params.zip vals)
structure BX (K:Frag) (S:St) (T:Hj):Prop where
 X:K.In S.h₀
 glob:∀x av,T.glob.lookup x=some av->∃v,S.mg x=some v/\Cg [] S.h₀ av v
 blt:∀x p,T.blt.lookup x=some p->S.mg x=none/\S.mb x=some (BN p)
 fns:∀f F,T.fns.lookup f=some F->FnOk S f F
 meths:∀C l m f,T.meths.lookup C=some l->l.lookup m=some f->findIn K (.ref C) m=some (some (.ref f))/\typeIn K (.ref f)=some (.type "function")
 cls:∀C l,T.absent.lookup C=some l->findIn K (.ref C) "__getattribute__"=some (some (.builtin "object.__getattribute__"))/\findIn K (.ref C) "__getattr__"=some none/\hasDictIn K C/\
  ∀n∈l,findIn K (.ref C) n=some none
 sets:∀C l,T.absent.lookup C=some l->findIn K (.ref C) "__setattr__"=some (some (.builtin "object.__setattr__"))/\plainOver K C
 virt:∀k,∃l ms,T.absent.lookup (Lg k)=some l/\T.meths.lookup (Lg k)=some ms/\ms.lookup ("propagate":Str)=some (Gv k)/\(l.contains ("scope":Str)&&l.contains ("number":Str))
def V4 (t:Dt):Bool:=match t with|.any=>false|.v x=>handedIn x|.sel _ _=>false|_=>true
def V5 (a:AV):Bool:=match a with|.d t=>V4 t|_=>true
def Ts (e:V4 t)(r:Ah h t v):handedIn v:=by
 cases t with
 |any=>ext e
 |sel=>ext e
 |v=>ext r;show e
 |pr p=>ext r;cases p<;>rfl
 |int=>obtain⟨_,rfl⟩:=r;rfl
 |str=>obtain⟨_,rfl⟩:=r;rfl
 |_=>show Hi r λZ Z a Z=>?_;subst a;rfl
def Ln (e:V5 a)(r:Cg γ h a v):handedIn v:=by
 cases a with
 |d t=>show Ts e r
 |ref=>show AH r λZ b Z=>?_;subst b;rfl
 |mt=>show Hi r λZ Z b Z=>?_;subst b;rfl
def jv (l:List Dt)(n j:Nat)(k:Dt->Prop):Prop:=match l with|[]=>True|t::l=>(n=j->k t)/\jv l n (j+1) k
def ng (t:Dt)(k:Dt->Prop):Prop:=match t with|.sel l n=>n<l.length/\jv l n 0 k|t=>k t
def V6 {h:Heap}{v:Value}{k}{P:Prop}{l}:∀ {m j:Nat},jv l (m+j) j k->m<l.length->Ik h l m v->(∀t,Ah h t v->k t->P)->P:=by
 induction l with
 |nil=>intro m j _ hm;ext hm
 |cons t l ih=>
  intro m j a hm r q;cases m with
  |zero=>show q t r (a.1 (Nat.zero_add j))
  |succ m=>show ih (m:=m) (j:=j+1) (by have:=a.2;rwa [Nat.add_assoc,Nat.add_comm 1 j] at this) (Nat.lt_of_succ_lt_succ hm) r q
def Tt {h:Heap}{t:Dt}{v:Value}{k}{P:Prop}(e:ng t k)(r:Ah h t v)(q:∀t,Ah h t v->k t->P):P:=by
 cases t with
 |sel l n=>show V6 (m:=n) (j:=0) e.2 e.1 r q
 |_=>show q _ r e
def nh (a:AV)(k:AV->Prop):Prop:=match a with|.d t=>ng t λt=>k (.d t)|a=>k a
def Tu {γ}{h:Heap}{a:AV}{v:Value}{k}{P:Prop}(e:nh a k)(r:Cg γ h a v)(q:∀a,Cg γ h a v->k a->P):P:=by
 cases a with
 |d t=>show Tt e r λt r h=>q (.d t) r h
 |_=>show q _ r e
def Xp (o:AO):Option (List (Str×AV)):=match o with|.ns fs=>some fs|_=>none
def IL (o:AO):Option (Addr×Nat):=match o with|.inst C d=>some (C,d)|_=>none
def JY (o:AO):Option (Option AV):=match o with|.cell v=>some v|_=>none
def Nj (e:Xp o=some x):o=.ns x:=by
 show Ap (p:=λx=>o=.ns x) ?_ e;cases o<;>trivial
def FD (e:IL o=some x):o=.inst x.1 x.2:=by
 show Ap (p:=λx=>o=.inst x.1 x.2) ?_ e;cases o<;>trivial
def KD (e:JY o=some x):o=.cell x:=by
 show Ap (p:=λx=>o=.cell x) ?_ e;cases o<;>trivial
def Tv (σ:AC)(i:Nat)(k:List (Str×AV)->Prop):=Db σ i λo=>AD (Xp o) k
theorem Ec {σ:AC}{i:Nat}{k}{P:Prop}(h:Tv σ i k)(q:∀fs,live σ i (.ns fs)->k fs->P):P:=
 BM h λZ e h=>AA h λfs a h=>q fs (Nj a▸e) h
def Tw (σ:AC)(a:AV)(k:Addr->Nat->List (Str×AV)->Prop):=Cj σ a λZ o=>AD (IL o) λx=>Tv σ x.2 λfs=>k x.1 x.2 fs
def Oz {β:Type}(l:List (Str×β))(x:Str)(k:β->Prop):Prop:=AD (l.lookup x) k
def O0 (σ:AC)(d:Nat)(fs:List (Str×AV))(n:Str)(a:AV)(k:DK):Prop:=match a with
 |.d t=>(match t with|.sel l m=>m<l.length/\jv l m 0 λt=>k (.d t) (σ.set d (some (.ns (put n (.d t) fs))))|t=>k (.d t) σ)
 |a=>k a σ
def rE (o:AO):Option (Nat×Nat):=match o with
 |.kd w k _ r=>(match w with|.vi=>some (k,r)|_=>none)
 |_=>none
def wx (o:AO):Option (Nat×Int×Nat):=match o with
 |.kd w k c r=>(match w with|.vn=>some (k,c,r)|_=>none)
 |_=>none
def Nk (e:rE o=some x):o.nf=.inst (Lg x.1) x.2:=by
 show Ap (p:=λx=>o.nf=.inst (Lg x.1) x.2) ?_ e;cases o with
 |kd w=>cases w<;>trivial
 |_=>trivial
def Xq (e:wx o=some x):o=.kd .vn x.1 x.2.1 x.2.2:=by
 show Ap (p:=λx=>o=.kd .vn x.1 x.2.1 x.2.2) ?_ e;cases o with
 |kd w=>cases w<;>trivial
 |_=>trivial
def bc (σ:AC)(i:Nat):=Br (σ[i]?) λc=>c
theorem Lo {σ}{i}{o}(e:bc σ i=some o):live σ i o:=AI e λc e1 a=>by subst a;show e1
def rG (σ:AC)(a:AV):=Br (Es a) λi=>Br (bc σ i) λo=>Br (rE o) λx=>Br (bc σ x.2) λd=>Br (wx d) λy=>some (x.1,x.2,y)
def ni (T:Hj)(o:AV)(n:Str)(σ:AC)(k:DK):Prop:=
 AW (rG σ o) (λZ=>As (n==("scope":Str)) (k (.d (.tup [.int 0,.int 1])) σ)) <| Tw σ o λC d fs=>Oz fs n λav=>AD (T.absent.lookup C) λl=>O0 σ d fs n av λav σ=>As (l.contains n&&V5 av) (k av σ)
def JZ {h:Heap}{a:Addr}{m}(n:h.Ns a m):∃o,h.get? a=some o/\∀x,lookIn x o=some (m x):=by
 show Si n λo es b ho hd hk hm=>?_;show⟨o,ho,λx=>?_⟩;have hx:=hm x;unfold lookIn;rw[hd];unfold nsFind findBy at hx;rw[<-Array.find?_toList] at hx;dsimp only;have hr:es.toList.any (·.refKey)=false:=by
  rw[List.any_eq_false];intro e he;show jP (hk e (Array.mem_toList_iff.mp he)) λn t q=>?_;simp[DictEntry.refKey,q]
 cases q:es.toList.find? (·.key.isStr x) with
 |none=>rw[q] at hx;rw[<-hx,hr];rfl
 |some e=>rw[q] at hx;rw[<-hx];rfl
def findObj_own {K}{C}{o}{n}{v}(h1:findIn K (.ref C) n=some none)(a:hasDictIn K C)(h3:lookIn n o=some (some v)):findObj K C (some o) n=some (.value v):=by
 unfold hasDictIn at a;cases q:clsIn K C with
 |none=>rw[q] at a;ext a
 |some b=>
  rw[q] at a;have c:b.hasDict:=a;unfold findObj;rw[q];change (findIn K (.ref C) n).bind _=_;rw[h1];change (W.ownOf b (some o) n).bind _=_;rw[show W.ownOf b (some o) n=some (some v) by unfold W.ownOf;rw[c,if_pos rfl];show h3];rfl
section
variable {K:Frag}{S:St}{T:Hj}{A:Around}{c:At S}{fr:Fr}{env:Env}
@[elab_as_elim] theorem AAT {a:AV} {v:Value} {P:Value->Prop} {k:Addr->Nat->List (Str×AV)->Prop} (h:Tw c.σ a k) (r:c.VR a v)
 (q:∀C d fs ad b kvs,c.h.get? ad=some (instObj C b)->c.γ[d]?=some b->live c.σ d (.ns fs)->By c.γ c.h fs kvs->c.h.Ns b (λx=>kvs.lookup x)->c.h.DictLe b kvs.length->k C d fs->P (.ref ad)):P v:=
 Al h r λi ao ad j e r h=>AA h λx ex h=>Ec h λfs f h=>by
  have r:AL S.prog S.w c.γ c.h (.inst x.1 x.2) ad:=FD ex▸r;show AH r.inst λb ho hd=>?_;show Ek ((c.R.cells _ _ _ f hd).ns) λkvs g hn hz=>?_;show q x.1 x.2 fs ad b kvs ho hd f g hn hz h
def At.close (c:At S){d:Nat}{fs:List (Str×AV)}{kvs:List (Str×Value)}{b:Addr}{n:Str}{v:Value}{t:AV}(hd:c.γ[d]?=some b)(e:live c.σ d (.ns fs))(f:By c.γ c.h fs kvs)(hn:c.h.Ns b λx=>kvs.lookup x)(hz:c.h.DictLe b kvs.length)
 (hv:kvs.lookup n=some v) (r:c.VR t v):At S:=
 c.view (ao':=.ns (Internal.put n t fs)) e λa g Z=>by
  cases hd.symm.trans g;show .ofNs (kvs:=Internal.put n v kvs) (f.put r) ?_ ?_
  · have:(λx=>(Internal.put n v kvs).lookup x)=λx=>kvs.lookup x:=by
     funext x
     rw[Lm];cases q:x==n with
     |false=>rfl
     |true=>rw[Fz.mp q,hv]
    rw[this];show hn
  · rw[F6,hv];show hz
def Ip {d:Nat}{fs}{kvs}{a:Addr}{n:Str}{v:Value}{av:AV}{k}{P:Prop}(h:O0 c.σ d fs n av k)
 (hd:c.γ[d]?=some a) (e:live c.σ d (.ns fs)) (b:By c.γ c.h fs kvs) (hn:c.h.Ns a λx=>kvs.lookup x) (hz:c.h.DictLe a kvs.length) (hv:kvs.lookup n=some v) (r:c.VR av v)
 (q:∀av (c':At S),c.le c'->c'.s=c.s->c'.VR av v->k av c'.σ->P):P:=by
  cases av with
  |d t=>
   cases t with
   |sel l m=>show V6 (m:=m) (j:=0) h.2 h.1 r λt r h=>q (.d t) (c.close (t:=.d t) hd e b hn hz hv r) (c.le_view ..) rfl r h
   |_=>show q _ c (.refl c) rfl r h
  |_=>show q _ c (.refl c) rfl r h
def At.tok_eq {c':At S}{t}(es:c'.s=c.s):(c'.tok t).s={c.s with toks:=t}:=by
 change {c'.s with heap:=c'.s.heap,toks:=t}=_;rw[es]
@[elab_as_elim] theorem Nl {a:AV} {v:Value} {x:Nat×Nat×Nat×Int×Nat} {P:Value->Prop} (e:rG c.σ a=some x) (r:c.VR a v)
 (q:∀ad b kvs,c.h.get? ad=some (instObj (Lg x.1) b)->c.γ[x.2.1]?=some b->live c.σ x.2.1 (.kd .vn x.2.2.1 x.2.2.2.1 x.2.2.2.2)->By c.γ c.h (M7 x.2.2.1 x.2.2.2.1 x.2.2.2.2) kvs->c.h.Ns b (λx=>kvs.lookup x)->c.h.DictLe b kvs.length->P (.ref ad)):P v:=
 AI e λi e1 e=>AI e λo j e=>AI e λy k e=>AI e λd g e=>AI e λz l e=>by
  ext e;rw[II e1] at r;show AH r λad m n=>?_;subst m;have f:=c.R.cells _ _ _ (Lo j) n;have f:AL S.prog S.w c.γ c.h (.inst (Lg y.1) y.2) ad:=by unfold AL at f ⊢;rw[Nk k] at f;show f
  show AH f.inst λb ho hd=>?_;have g:=Xq l▸Lo g;have h:=c.R.cells _ _ _ g hd;have h:AL S.prog S.w c.γ c.h (.ns (M7 z.1 z.2.1 z.2.2)) b:=h;show Ek h.ns λkvs p hn hz=>?_;show q ad b kvs ho hd g p hn hz
def Nm (H:BX K S T){C ad b:Addr}{l:List Str}{kvs:List (Str×Value)}{n:Str}{v:Value}(d:T.absent.lookup C=some l)(hc:l.contains n)(ho:c.h.get? ad=some (instObj C b))(hn:c.h.Ns b λx=>kvs.lookup x)(hv:kvs.lookup n=some v)(f:handedIn v)
 {x:Bool} {E:F3} {Q:F3} (q:Q v {c.s with toks:=c.s.toks+1}):wpAny S.mdl A (getAttr (.ref ad) n x) Q E c.s:=by
 show AH (JZ hn) λi a hl=>?_;show M2 (H.cls C l d) λc1 j g h=>?_;show get_value (H.X.keeps c.R.keep) ⟨ho,rfl,rfl,a⟩ c1 (findObj_own (h n (LK.mp hc)) g (by rw[hl,hv])) f q
theorem be (H:BX K S T){o:AV}{n:Str}{k:DK}{j:Value}{x:Bool}(r:c.VR o j)(h:ni T o n c.σ k):WV A c (getAttr j n x) k:=
 AE h (λy s h=>Nl s r λad t kvs ho hd m b hn hz=>AG h λen h E Q q=>by
  cases Fz.mp en;show pv (H.virt y.1) λl ms f Z Z u=>?_;show AH (b.get (x:=("scope":Str)) (av:=.d (.tup [.int 0,.int 1])) rfl) λv hv a=>?_;show Nm H f (DQ.mp u).1 ho hn hv (Ln rfl a) (q _ (c.tok (c.s.toks+1)) v h (c.le_tok _) a)) λh=>
 AAT h r λC d fs ad t kvs ho hd m b hn hz h=>AA h λav ex h=>AA h λl f h E Q q=>by
  show AH (b.get ex) λv hv a=>?_;show Ip h hd m b hn hz hv a λav c' p es a h=>AG h λhc hk=>?_;have g:=aL hc;have i:=aR hc;show Nm H f g ho hn hv (Ln i a) (At.tok_eq es▸q av (c'.tok (c.s.toks+1)) v hk ⟨p.pre,p.tk⟩ a)
def IM (σ:AC)(fr:Fr)(x:Str)(k:Nat->Option AV->Prop):=AD (fr.cells.lookup x) λi=>Db σ i λo=>AD (JY o) λv=>k i v
def bh (T:Hj)(fr:Fr)(x:Str)(cl:Bool)(σ:AC)(k:DK):Prop:=As (!(x==("__debug__":Str))) (AD (fr.scope.names.lookup x) λkd=>match kd with|.local=>Tv σ fr.lid λfs=>Oz fs x λav=>Bool.rec (k av σ) (O0 σ fr.lid fs x av k) cl|.cell=>IM σ fr x λZ v=>AD v λav=>k av σ|.globalImplicit=>AW (T.glob.lookup x) (λav=>k av σ) (AD (T.blt.lookup x) λp=>k (.d (.pr p)) σ)|_=>False)
theorem jx γ:Ka [] γ:=⟨γ,by simp⟩
theorem Gg {x:Str}{cl}(h3:Et c.γ fr.cells cl){k}{P:Prop}(h:IM c.σ fr x k)
 (q:∀i v a,c.γ[i]?=some a->(∀z,(cl++z).lookup x=some a)->live c.σ i (.cell v)->k i v->P):P:=
  AA h λi b h=>BM h λo e h=>AA h λv ev h=>AH (h3.lookup b) λa d f=>q i v a d f (KD ev▸e) h
def Qq (H:BX K S T)(g:AR c.γ fr env){x:Str}{pos:Pos}{cl:Bool}{k}(h:bh T fr x cl c.σ k):WV A c (eval (.Name x pos) env) k:=by
 obtain⟨hk,L,F,clo,h1,d,h3,rfl⟩:=g;show AG h λhd h=>AA h λkd hl h E Q q=>?_;have hd:(x==("__debug__":Str))=false:=by cases e:x==("__debug__":Str) with|false=>rfl|true=>rw[e] at hd;ext hd
 cases kd with
 | «local» =>
   show Ec h λfs e h=>AA h λav ex h=>by
    show Ek ((c.R.cells _ _ _ e h1).ns) λkvs f hn hz=>?_;show AH (f.get ex) λv hv b=>?_;show wpAny_Name (wpAny_loadName_local hk hl hn hv ?_) hd;cases cl with
    |false=>show q av c v h (.refl c) b
    |true=>show Ip h h1 e f hn hz hv b λav c' l es r hk=>es▸q av c' v hk l r
 |cell=>
  show Gg h3 h λi v a j m e h=>AA h λav ev h=>by
   subst ev;show AH ((c.R.cells _ _ _ e j).cell) λv hc b=>?_;show wpAny_Name (wpAny_loadName_cell hk hl (m _) hc (q av c v h (.refl c) b)) hd
 |globalImplicit=>
  show Name_function_global hk hl ?_ hd;have hg:c.h.Ns mainGlobals S.mg:=S.g.keeps c.R.keep;show AE h (λav ex h=>?_) λh=>AA h λp ex h=>?_
  · show AH (H.glob x av ex) λv hv b=>?_;show loadGlobal_global hg hv (q av c v h (.refl c) (b.mono (jx _) (.keeps c.R.keep)))
  · obtain⟨h1,d⟩:=H.blt x p ex;show loadGlobal_builtin hg h1 (mb:=S.mb) (S.b.keeps c.R.keep) d (q _ c _ h (.refl c) rfl)
 |_=>show h.elim
end
def BY:El:=⟨false,[],0,0,default⟩
def bi (e:El)(k:Int->Prop):=(e.x=false->k 0)/\(e.x->k 1)
def Lp (t:Ty)(e:El)(k:AV->Prop):Prop:=match t with|.trl=>bi e λi=>k (.d (.tup [.int i,.dom e.d,.any,.any,.any]))|.pth=>bi e λi=>k (.d (.tup [.int i,.str "<=",.int e.v]))|t=>k (Ch t e)
def Qr (h:bi e k):k (CZ e.x):=by
 cases q:e.x with
 |false=>show h.1 q
 |true=>show h.2 q
def HM (h:Lp t e k):k (Ch t e):=by
 cases t with
 |trl=>show Qr (k:=λi=>k (.d (.tup [.int i,.dom e.d,.any,.any,.any]))) h
 |pth=>show Qr (k:=λi=>k (.d (.tup [.int i,.str "<=",.int e.v]))) h
 |_=>show h
def Tx (i:Int):=decide (-1073741824<i)&&decide (i<1073741824)
theorem Nn {i}(h:Tx i):small i:=let ⟨a,b⟩:=DQ.mp h;⟨AAL a,AAL b⟩
theorem Tz (j:Int) n:seqIndex? j n=(λk:Int=>if (decide (0<=k)&&decide (k<n))=true then some k.toNat else none) (if j<0 then j+n else j):=rfl
def AAf {j:Int}{n:Nat}(h0:0<=j)(h:j<n):seqIndex? j n=some j.toNat:=by
 rw[Tz,if_neg (Int.not_lt.mpr h0)];dsimp only;rw[Fy h0,Fy h];rfl
def bk {j:Int}{n:Nat}(h:j<0)(h0:0<=j+n)(h1:j+n<n):seqIndex? j n=some (j+n).toNat:=by
 rw[Tz,if_pos h];dsimp only;rw[Fy h0,Fy h1];rfl
def Qs {n:Nat}(h:0<n):seqIndex? (-1) n=some (n-1):=by
 cases n with
 |zero=>ext h
 |succ n=>
  have e:(-1:Int)+(n+1:Nat)=n:=by lia
  rw[bk ∅ (by lia) (by lia),e];rfl
def No {P:Prop}{k:Int}{n m:Nat}(e:seqIndex? k n=some m)(p:0<=k->k<n->m=k.toNat->P)(q:k<0->0<=k+n->m=(k+n).toNat->P):P:=by
 rw[Tz] at e
 by_cases h:k<0
 · rw[if_pos h] at e;dsimp only at e
   by_cases h0:0<=k+n
   · rw[Fy h0] at e
     by_cases h1:k+n<n
     · rw[Fy h1] at e;show q h h0 (M1 e).symm
     · rw[Zr h1] at e;ext e
   · rw[Zr h0] at e;ext e
 · rw[if_neg h] at e;dsimp only at e;rw[Fy (Int.not_lt.mp h)] at e
   by_cases h1:k<n
   · rw[Fy h1] at e;show p (Int.not_lt.mp h) h1 (M1 e).symm
   · rw[Zr h1] at e;ext e
def bm (d:Cf)(j:Int)(k:AV->Prop):Prop:=d≠[]/\d.length<=1000/\
 Bool.rec (Bool.rec False (k (.d (.tup [.int (d.getLastD (0,0)).1,.int (d.getLastD (0,0)).2]))) (decide (j=-1))) (k (.d (.tup [.int (d.headD (0,0)).1,.int (d.headD (0,0)).2]))) (decide (j=0))
def nk (t:Ty)(xs:List El)(j:Int)(k:AV->Prop):Prop:=xs.length<=1000/\
 Bool.rec (0<=j/\j.toNat<xs.length/\Lp t (xs.getD j.toNat BY) k) (xs≠[]/\Lp t (xs.getLastD BY) k) (decide (j=-1))
def KH (t:Dt):Option Cf:=match t with|.dom d=>some d|_=>none
def Dp {t}{x}(e:KH t=some x):t=.dom x:=by
 show Ap (p:=λx=>t=.dom x) ?_ e;cases t<;>trivial
def Iq (o:AO):Option (List (Int×AV)):=match o with|.idict es=>some es|_=>none
def M9 (o:AO):Option (Bool×Bool):=match o with|.iset b c=>some (b,c)|_=>none
def rH (o:AO):Option (List (Int×AV)×Nat):=match o with|.edict x n=>some (x,n)|_=>none
def Np (e:rH o=some x):o=.edict x.1 x.2:=by
 show Ap (p:=λx=>o=.edict x.1 x.2) ?_ e;cases o<;>trivial
def CH (e:Iq o=some x):o=.idict x:=by
 show Ap (p:=λx=>o=.idict x) ?_ e;cases o<;>trivial
def DU (e:M9 o=some x):o=.iset x.1 x.2:=by
 show Ap (p:=λx=>o=.iset x.1 x.2) ?_ e;cases o<;>trivial
def zF {α:Type}(l:List α)(j:Int)(k:α->Prop):=As (Tx j) (AD (Br (seqIndex? j l.length) λm=>l[m]?) k)
def zG (r:RD):AV:=match r with|.r i=>.ref i|.d t=>.d t
def bp (a:AV):Option (List RD):=match a with|.mt l=>some l|_=>none
def Nq (e:bp t=some x):t=.mt x:=by
 show Ap (p:=λx=>t=.mt x) ?_ e;cases t<;>trivial
def Qt:∀ {vs:List Value},Er γ h l vs->AY γ h (l.map zG) vs:=by
 induction l with
 |nil=>show λr=>r
 |cons x l ih=>show λ⟨v,a,e,r,rs⟩=>⟨v,a,e,match x,r with|.r _,r=>r|.d _,r=>r,ih rs⟩
def wy (t:Dt):Option (List Dt×Nat):=match t with|.sel l n=>some (l,n)|_=>none
def Xr (e:wy t=some x):t=.sel x.1 x.2:=by
 show Ap (p:=λx=>t=.sel x.1 x.2) ?_ e;cases t<;>trivial
def rJ (i:Int)(l:List Dt):Bool:=match l with|[]=>true|t::l=>Option.rec false (λj=>decide (j=i)) (QM t)&&rJ (i+1) l
def subX (o i:AV)(σ:AC)(k:DK):Prop:=AD (Br (Ff i) wy) λx=>AD (Br (Ff o) JS) λl=>
 As (rJ 0 x.1&&(Nat.beq l.length x.1.length&&Nat.ble l.length 1000)) (x.2<l.length/\k (.d (.sel l x.2)) σ)
def bq:∀ {i:Int} {n:Nat} {v:Value},rJ i l->n<l.length->Ik h l n v->∃t,v=.int (i+n) t:=by
 induction l with
 |nil=>intro i n v _ h;show absurd h (Nat.not_lt_zero _)
 |cons x l ih=>
  intro i n v e hn r;have e1:=aL e;have a:=aR e;cases n with
  |zero=>
   have r:Ah h x v:=r;cases z:QM x with
   |none=>rw[z] at e1;ext e1
   |some j=>
    rw[z] at e1;cases AAL e1;rw[CK z] at r;obtain⟨t,rfl⟩:=r;show⟨t,by rw[Int.natCast_zero,Int.add_zero]⟩
  |succ n=>
   obtain⟨t,rfl⟩:=ih a (Nat.lt_of_succ_lt_succ hn) r;show⟨t,by congr 1;lia⟩
def Qu:∀ {n:Nat} {t:Dt} {v:Value},l[n]?=some t->Ah h t v->Ik h l n v:=by
 induction l with
 |nil=>intro n t v e;ext e
 |cons x l ih=>
  intro n t v e r;cases n with
  |zero=>ext e;show r
  |succ n=>show ih (t:=t) e r
def wz (o i:AV)(σ:AC)(k:DK):Prop:=AW (Cp i) (λj=>
 AW (Ff o) (λt=>AW (JS t) (λl=>zF l j λt=>k (.d t) σ) (AD (KH t) λd=>bm d j λav=>k av σ))
  (AW (bp o) (λl=>zF (l.map zG) j λav=>k av σ) <| Cj σ o λZ ao=>AW (Lk ao) (λxs=>zF xs j λav=>k av σ) (AW (IK ao) (λx=>nk x.1 x.2 j λav=>k av σ) (AW (Iq ao) (λes=>AD (es.lookup j) λav=>k av σ) (AD (rH ao) λx=>AD (x.1.lookup j) λav=>k av σ))))) (subX o i σ k)
section
variable {γ:List Addr}{h:Heap}
theorem Lq {α:Type}{l:List α}{j:Int}{k:α->Prop}{P:Prop}(h:zF l j k)(q:∀m x,small j->seqIndex? j l.length=some m->l[m]?=some x->k x->P):P:=
 AG h λa h=>AA h λx e h=>AI e λm e1 b=>q m x (Nn a) e1 b h
theorem Dk.get {d}:∀ {vs:List Value} {m:Nat} {p:Int×Int},Dk h d vs->d[m]?=some p->∃v,vs[m]?=some v/\Ah h (pairD p) v:=
 λr e=>(Ow r).get (by rw[Vm,e];rfl)
def F7 (h:l≠[]):l[l.length-1]?=some (l.getLastD d):=by
 rw[<-List.getLast?_eq_getElem?,uj h,zA,uj h];rfl
def Xs (h:l≠[]):l[0]?=some (l.headD d):=by
 cases l with
 |nil=>show absurd rfl h
 |cons x r=>rfl
theorem bu {a:Ty}{xs:List El}{vs:List Value}(r:AY γ h (xs.map (Ch a)) vs){m:Nat}{e:El}(q:xs[m]?=some e):∃v,vs[m]?=some v/\Cg γ h (Ch a e) v:=
 r.get (by rw[Vm,q];rfl)
def Cy {K:Type} [DecidableEq K] (k:K):∀kvs:List (K×Value),valueAt kvs k=kvs.lookup k:=by
 intro kvs
 induction kvs with
 |nil=>rfl
 |cons x r ih=>
  rw[Sa,<-ih];unfold valueAt;show(List.find?_cons)▸?_
  by_cases e:x.1=k
  · rw[Fy e,Fz.mpr e.symm];rfl
  · rw[Zr e,ug.mpr (Ne.symm e)]
def AY.set (r:Cg γ h a v):∀ {vs:List Value} {m:Nat},AY γ h xs vs->AY γ h (xs.set m a) (vs.set m v):=by
 induction xs with
 |nil=>intro vs m q;ext q;show rfl
 |cons x xs ih=>
  rintro vs m ⟨w,b,rfl,q,qs⟩
  cases m with
  |zero=>show⟨v,b,rfl,r,qs⟩
  |succ m=>show⟨w,b.set m v,rfl,q,ih qs⟩
def AY.take:∀ {vs:List Value} (_:AY γ h xs vs) (n:Nat),AY γ h (xs.take n) (vs.take n):=by
 induction xs with
 |nil=>intro vs r n;ext r;rw[List.take_nil,List.take_nil];show rfl
 |cons x xs ih=>
  rintro vs ⟨v,a,rfl,r,rs⟩ n
  cases n with
  |zero=>show rfl
  |succ n=>show⟨v,a.take n,rfl,r,ih rs n⟩
def AY.drop:∀ {vs:List Value} (_:AY γ h xs vs) (n:Nat),AY γ h (xs.drop n) (vs.drop n):=by
 induction xs with
 |nil=>intro vs r n;ext r;rw[List.drop_nil,List.drop_nil];show rfl
 |cons x xs ih=>
  rintro vs ⟨v,a,rfl,r,rs⟩ n
  cases n with
  |zero=>show⟨v,a,rfl,r,rs⟩
  |succ n=>show ih rs n
end
section
variable {prog:Program}{w:World}{A:Around}{E:F3}{s:Shared}
def Lr j o i:∃l,subscripted j false o i=operate l (getItem o i):=by
 cases j with
 |Slice a b c p=>cases c<;>show⟨_,rfl⟩
 |_=>show⟨_,rfl⟩
def Ir {value j}{o i}{T id}{Q}(c:s.TypeIs o T)(hl:typeLookup (.type T) "__getitem__"=pure (some (.builtin id)))(h:wpAny (model prog w) A (getItem o i) Q E s):
 wpAny (model prog w) A (subscriptTail value j o i) Q E s:=by
 unfold subscriptTail;show An ?_;show(getitemInPython_of_ne c.not_modules)▸?_;show An (wpAny_specialOf c hl ?_);have fin:wpAny (model prog w) A (subscripted j false o i) (λr a=>wpAny (model prog w) A (letTemporaryGo value o r>>=λZ=>pure r) Q E a) E s:=by
  have z:∀l,wpAny (model prog w) A (operate l (getItem o i)) (λr a=>wpAny (model prog w) A (letTemporaryGo value o r>>=λZ=>pure r) Q E a) E s:=λl=>
   wpAny_operating (NR h (λr a b=>An (wpAny_letTemporaryGo (B9 b))) λZ Z x=>x)
  obtain⟨l,e⟩:=Lr j o i;show(e)▸?_;show z l
 first|show B9 (An fin)|show An (B9 (An fin))|show An fin
theorem It {value u}{a}{its}{j}{t}{m}{v}{Q}(b:s.heap.IsTuple a its)(c:small j)(e:seqIndex? j its.size=some m)(hv:its.toList[m]?=some v)(q:Q v s):
 wpAny (model prog w) A (subscriptTail value u (.ref a) (.int j t)) Q E s:=
 Ir (id:="tuple.__getitem__") b.typeIs slot_tuple_getitem.lookup (getItem_tuple b (by have:=c.1;lia) (by have:=c.2;lia) e (by rw[<-Vn];show hv) q)
def V7 {value b:Expr}{a:Addr}{its:Array Value}{j:Int}{t:Tok}{m:Nat}{v:Value}{Q}(c:s.heap.PlainList a its)(d:small j)(e:seqIndex? j its.size=some m)(hv:its.toList[m]?=some v)(q:Q v s):
 wpAny (model prog w) A (subscriptTail value b (.ref a) (.int j t)) Q E s:=by
 rw[Vn] at hv;show Ir (id:="list.__getitem__") c.isList.typeIs slot_list_getitem.lookup ?_;show No e (λh0 Z f=>?_) λh0 h1 f=>?_<;>subst f
 · show wpAny_getItem_list c.isList h0 (by have:=d.2;lia) hv q
 · show wpAny_getItem_list_neg c.isList h0 (by lia) (by have:=d.1;lia) hv q
end
section
variable {K:Frag}{S:St}{T:Hj}{A:Around}{c:At S}{fr:Fr}{env:Env}
def Qv {d:Cf}{j:Int}{k}{P:Prop}(h:bm d j k)(q:∀m p,small j->seqIndex? j d.length=some m->d[m]?=some p->k (.d (pairD p))->P):P:=by
 obtain⟨h1,hz,h⟩:=h;have a:0<d.length:=nD.mpr h1;cases e:decide (j=0) with
 |true=>
  rw[e] at h;cases AAL e;show q 0 _ ⟨∅,∅⟩ (AAf (Int.le_refl 0) (Int.ofNat_lt.mpr a)) (Xs h1) h
 |false=>
  rw[e] at h;cases b:decide (j=-1) with
  |false=>rw[b] at h;show h.elim
  |true=>
   rw[b] at h;cases AAL b;show q (d.length-1) _ ⟨∅,∅⟩ (Qs a) (F7 h1) h
def T1 {t:Ty}{d}{j:Int}{k}{P:Prop}(h:nk t d j k)(q:∀m e,small j->seqIndex? j d.length=some m->d[m]?=some e->k (Ch t e)->P):P:=by
 obtain⟨hz,h⟩:=h;cases b:decide (j=-1) with
 |false=>
  rw[b] at h;obtain⟨h1,c,h⟩:=h;show q j.toNat _ ⟨by omega,by omega⟩ (AAf h1 (by omega)) (FA c) (by have:=HM h;rwa [NS,FA c] at this)
 |true=>
  rw[b] at h;obtain⟨h1,h⟩:=h;cases AAL b;have a:0<d.length:=nD.mpr h1;show q (d.length-1) _ ⟨∅,∅⟩ (Qs a) (F7 h1) (HM h)
theorem AL.idict {P}{W}{γ}{h}{a}{es}(r:AL P W γ h (.idict es) a):∃kvs,By γ h es kvs/\h.DictOf (intKind P W) a kvs:=
 Bj r λZ Z ho k rs=>AH k λkvs e q=>⟨kvs,⟨e.1,e.2▸rs⟩,q h a ho⟩
theorem AL.edict {P}{W}{γ}{h}{a}{es}{n}(r:AL P W γ h (.edict es n) a):∃kvs,By γ h es kvs/\h.DictAt (intKind P W) a kvs n:=
 Bj r λZ Z ho k rs=>AH k λkvs e q=>⟨kvs,⟨e.1,e.2▸rs⟩,q h a ho⟩
theorem AL.ofEdict {P}{W}{γ}{h}{a}{es}{n}{kvs}(r:By γ h es kvs)(hd:h.DictAt (intKind P W) a kvs n):AL P W γ h (.edict es n) a:=
 Hi hd λo e ho x=>⟨o,_,ho,⟨kvs,⟨r.1,rfl⟩,λZ Z b=>⟨o,e,b,x⟩⟩,r.2⟩
theorem O1 {K:Type} [DecidableEq K] {P:Program}{W:World}{knd:PySem.KeyKind P W K}{h:Heap}{a:Addr}{kvs:List (K×Value)}(hd:h.DictOf knd a kvs):∃o,h.get? a=some o/\Obj.all o λh a=>h.DictOf knd a kvs:=
 uq hd λo es c ho x=>⟨o,ho,λZ Z b=>⟨o,es,c,b,x⟩⟩
theorem AL.ofIdict {P:Program}{W:World}{γ}{h:Heap}{a:Addr}{es}{kvs}(r:By γ h es kvs)(hd:h.DictOf (intKind P W) a kvs):AL P W γ h (.idict es) a:=
 AH (O1 hd) λo ho x=>⟨o,_,ho,⟨kvs,⟨r.1,rfl⟩,x⟩,r.2⟩
def Xu {P}{W}{j}{v}(h:(intKind P W).is j v):∃t,v=.int j t:=by
 have h:Value.isInt j v:=h;cases v with
 |int i t=>show⟨t,by rw[show i=j from by simpa [Value.isInt] using h]⟩
 |_=>ext h
def By.at {K:Type}{γ}{h:Heap}{es:List (K×AV)}{kvs:List (K×Value)}(r:By γ h es kvs){i:Nat}{e:K×AV}(x:es[i]?=some e):∃v,kvs[i]?=some (e.1,v):=by
 have h1:=congrArg (λl=>l[i]?) r.1;rw[Vm,Vm,x] at h1;cases q:kvs[i]? with
 |none=>rw[q] at h1;ext h1
 |some y=>
  rw[q] at h1;show⟨y.2,by rw[<-(M1 h1:y.1=e.1)]⟩
def FU {P}{W} j t:(intKind P W).is j (.int j t):=by change Value.isInt j (.int j t);simp[Value.isInt]
def jy {o i:AV}{k:DK}{D vi:Value}(s:c.VR o D)(F:c.VR i vi)(h:wz o i c.σ k){value n:Expr}:WV A c (subscriptTail value n D vi) k:=by
 intro E Q q;show AE h (λj ej h=>A9 ej F λy=>?_) λh=>AA h λx ex h=>AA h λl g h=>AG h λhb h=>AI ex λu G ex=>AI g λw H g=>?_
 · have hi:=aL hb;have hb:=aR hb;have hl:=aL hb;have hz:=aR hb;have hl:=LJ hl;have hz:=DF hz;have r:=A8 G F;rw[Xr ex] at r;obtain⟨y,rfl⟩:=bq hi (hl▸h.1) r;show Dy g (A8 H s) λad its p rs=>AH (rs.get (FA h.1)) λv hv a=>
    It p ⟨by lia,by lia⟩ (by rw[Int.zero_add,<-Ej,<-rs.length];show AAf (Int.natCast_nonneg _) (Int.ofNat_lt.mpr h.1)) (by rw[Int.toNat_natCast];show hv) (q (.d (.sel l x.2)) c v h.2 (.refl c) (Qu (FA h.1) a))
 have fin:∀av v,k av c.σ->c.VR av v->Q v c.s:=λav v hk r=>q av c v hk (.refl c) r;show AE h (λt e h=>AE h (λl g h=>?_) λh=>AA h λd I h=>?_) λh=>AE h (λl g h=>?_) λh=>Al h s λi ao ad J g r h=>AE h (λxs ex h=>?_) λh=>AE h (λx ex h=>?_) λh=>?_
 · show Dy g (A8 e s) λad its p rs=>Lq h λm x b e1 f hk=>AH (rs.get f) λv hv a=>It p b (by rwa [rs.length,Ej] at e1) hv (fin (.d x) v hk a)
 · have r:=A8 e s;rw[Dp I] at r;show Bj r λad its z p rs=>?_;subst z;show Qv h λm x b e1 f hk=>AH (rs.get f) λv hv a=>It p b (by rwa [rs.length,Ej] at e1) hv (fin _ v hk a)
 · rw[Nq g] at s;show Bj s λad its z p rs=>?_;subst z;show Lq h λm x b e1 f hk=>AH ((Qt rs).get f) λv hv a=>It p b (by rwa [(Qt rs).length,Ej] at e1) hv (fin x v hk a)
 · show AH (AL.items (xs:=xs) (by show(BQ ex)▸?_;rfl) r) λits hp rs=>?_;show Lq h λm x b e1 f hk=>AH (rs.get f) λv hv a=>V7 hp b (by rwa [rs.length,Ej] at e1) hv (fin x v hk a)
 · show AH (AL.items (xs:=x.2.map (Ch x.1)) (by show(Bf ex)▸?_;rfl) r) λits hp rs=>?_;show T1 h λm x b e1 f hk=>AH (bu rs f) λv hv a=>V7 hp b (by have:=rs.length;rw[Ei,Ej] at this;rwa [this] at e1) hv (fin _ v hk a)
 · show AE h (λes ex h=>AA h λav ev h=>?_) λh=>AA h λx ex h=>AA h λav ev h=>?_
   · show AH (AL.idict (CH ex▸r)) λkvs B hd=>?_;show AH (B.get ev) λv hv a=>?_;show Ir (id:="dict.__getitem__") hd.typeIs slot_dict_getitem.lookup (wpAny_getItem_of (knd:=intKind S.prog S.w) (k:=j) (FU j y) hd.mapOf ((Cy j kvs).trans hv) (q av (c.tok _) v h (c.le_tok _) a))
   · show AH (AL.edict (Np ex▸r)) λkvs B C=>?_;have hd:=C.dictOf;show AH (B.get ev) λv hv a=>?_;show Ir (id:="dict.__getitem__") hd.typeIs slot_dict_getitem.lookup (wpAny_getItem_of (knd:=intKind S.prog S.w) (k:=j) (FU j y) hd.mapOf ((Cy j kvs).trans hv) (q av (c.tok _) v h (c.le_tok _) a))
def BH {α:Type}(l:List α)(lo hi:Option Int):=(l.drop (kms_lo lo l.length)).take (kms_hi hi l.length-kms_lo lo l.length)
def bw (a:AV):Option (Option Int):=Br (Ff a) λt=>match t with|.v x=>Bool.rec none (some none) (jJ x)|.int j=>some (some j)|_=>none
theorem Nr (e:bw a=some l)(r:c.VR a v):IsPart v l:=AI e λt e1 b=>by
 have r:=A8 e1 r;cases t with
 |v x=>obtain⟨h,e⟩:=Eb b;cases Io h;ext r;ext e;show .none
 |int j=>obtain⟨_,rfl⟩:=r;ext b;show .int ..
 |_=>ext b
def bx (o:AO):Option (List El):=match o with|.raw xs=>some xs|_=>none
def Ls (e:bx o=some x):o=.raw x:=by
 show Ap (p:=λx=>o=.raw x) ?_ e;cases o<;>trivial
def bz (ao:AO)(lo hi:Option Int)(k:AO->Prop):=AW (IK ao) (λx=>x.2.length<=1000/\k (.tl x.1 (BH x.2 lo hi))) (AW (bx ao) (λxs=>xs.length<=1000/\k (.tl .int (BH xs lo hi))) (AD (Lk ao) λxs=>KC xs.length (k (.list (BH xs lo hi)))))
def cA (a lo hi:AV)(σ:AC)(k:DK):=Cj σ a λZ ao=>AD (bw lo) λl=>AD (bw hi) λu=>bz ao l u λo=>k (.ref σ.length) (σ++[some o])
def Lu (r:AY γ h xs its.toList) lo hi:AY γ h (BH xs lo hi) (slicePick its lo hi none).toList:=by
 rw[kms_pick_eq];change AY γ h _ (kms_pick its.toList lo hi);unfold kms_pick BH;rw[r.length];show(r.drop _).take _
def Lv {ao:AO}{l u:Option Int}{k}{P:Prop}{ad:Addr}(h:bz ao l u k)(r:AL S.prog S.w c.γ c.h ao ad)(q:∀its o xs,c.h.PlainList ad its->its.size<=1000->items o=some xs->AY c.γ c.h xs (slicePick its l u none).toList->k o->P):P:=by
 show AE h (λx ex h=>?_) λh=>AE h (λxs ex h=>?_) λh=>AA h λxs ex h=>?_
 · show AH (AL.items (xs:=x.2.map (Ch x.1)) (by show(Bf ex)▸?_;rfl) r) λits hp rs=>?_;have hz:=rs.length;rw[Ei,Ej] at hz;show q its _ _ hp (hz▸h.1) rfl ?_ h.2;have:=Lu rs l u;unfold BH at this ⊢;rwa [<-List.map_drop,<-List.map_take,Ei] at this
 · rw[Ls ex] at r;obtain⟨b,vs,ho,⟨rfl,rfl⟩,rs⟩:=r;have a:(xs.map Tj).toArray.size<=1000:=by rw[List.size_toArray,Ei];show h.1
   show q _ _ _ ⟨_,ho⟩ a rfl ?_ h.2;have:=Lu (its:=(xs.map Tj).toArray) rs l u;unfold BH at this ⊢;have e:(AO.raw xs).nf.vals=xs.map (Ch .int):=rfl;rwa [e,<-List.map_drop,<-List.map_take,Ei] at this
 · obtain⟨hz,h⟩:=BF h;show AH (AL.items (xs:=xs) (by show(BQ ex)▸?_;rfl) r) λits hp rs=>?_;show q its _ _ hp (by rw[<-Ej,<-rs.length];show hz) rfl (Lu rs l u) h
def Xv {a lo hi:AV}{f b d:Value}{k}(g:c.VR a f)(j:c.VR lo b)(m:c.VR hi d)(h:cA a lo hi c.σ k){value:Expr}{x y:Option Expr}{p:Pos}{E}{Q}
 (q:∀av (c':At S) v,k av c'.σ->c.le c'->c'.VR av v->Q v c'.s):wpAny S.mdl A (subscriptTail value (.Slice x y none p) f (.ref c.s.heap.objs.size)) Q E {c.s with heap:=c.s.heap.push {cls:=.type "slice",data:=.fields #[b,d,.none]}}:=by
  show Al h g λi ao ad w z r h=>AA h λl e1 h=>AA h λu n h=>Lv h r λits o xs hp hz t rs hk=>?_;show Ir (id:="list.__getitem__") (Heap.IsList.typeIs (s:={c.s with heap:=c.s.heap.push {cls:=.type "slice",data:=.fields #[b,d,.none]}}) (hp.isList.push _)) slot_list_getitem.lookup
   (wpAny_getItem_list_slice (hp.isList.push _) (Heap.IsSliceOf.new ..) (Nr e1 j) (Nr n m) .none (by simp) ?_ (by show(KY)▸?_;lia))
  let c1:=c.push {cls:=.type "slice",data:=.fields #[b,d,.none]} c.s.toks
  have l1:c.le c1:=c.le_push ..;show q _ (c1.newList t (l1.vrs rs)) _ hk (l1.trans (c1.le_new ..)) ⟨_,rfl,c1.new_ref _⟩
end
section
variable {M:Model}{A:Around}{E:F3}{s:Shared}
def jz (x:Str)(v:Value) kvs:(λy=>(put x v kvs).lookup y)=λy=>if y=x then some v else kvs.lookup y:=by
 funext y
 rw[Lm]
 by_cases h:y=x
 · rw[if_pos h,Fz.mpr h]
 · rw[if_neg h,ug.mpr h]
def Qw (hn:s.heap.Ns a λx=>kvs.lookup x)(hz:s.heap.DictLe a kvs.length)
 (h:∀h',h'.Ns a (λx=>(put name v kvs).lookup x)->(∀b o,b≠a->s.heap.get? b=some o->h'.get? b=some o)->h'.DictLe a (put name v kvs).length->Q () {s with heap:=h',toks:=s.toks+1}):
 wpAny M A (nsSet a name v) Q E s:=by
 show Zv λz gk=>?_;obtain⟨⟨c,d,D,p⟩,es,m,ho,hd,hk,hm⟩:=hn;show gk ?_;clear gk z;have g:=hz _ es m ho hd;have j:es.any (·.refKey)=false:=by
  rw[Array.any_eq_false'];intro e he;show jP (hk e he) λn t h=>?_;simp[DictEntry.refKey,h]
 unfold nsSet;show An (An (wpAny_askSetting (B9 (An (wpAny_mkText (An (wpAny_loadPart ho ?_)))))));subst hd;dsimp only;rw[aRefKeyMayBeTheName_at,j,pk,if_neg ∅];have fin:∀ {f:Obj->Obj} {es' ep'},f ⟨c,d,.dict es m,p⟩=⟨c,d,.dict es' ep',p⟩->StrKeys es'->(∀x,nsFind es' x=if x=name then some v else nsFind es x)->es'.size<=(put name v kvs).length->Q () {s with heap:=s.heap.update a f,toks:=s.toks+1}:=by
  intro f es' ep' hf q hx r;have k:(s.heap.update a f).get? a=some ⟨c,d,.dict es' ep',p⟩:=by rw[uk _ ho (by rw[hf];rfl)];show congrArg some hf
  show h _ ?_ (λb o ne e=>((pn ..).2 b ne).trans e) λF B C l u=>?_
  · rw[jz];show⟨_,es',ep',k,rfl,q,λx=>by rw[hx x,hm x]⟩
  · rw[k] at l;ext l;ext u;show r
 cases hi:es.findIdx? (·.key.isStr name) with
 |some i=>
  have w:(kvs.lookup name).isSome:=by
   have e:nsFind es name=kvs.lookup name:=hm name;show AH (Array.findIdx?_eq_some_iff_getElem.mp hi) λhl hp Z=>?_;rw[<-e];simp only[nsFind,findBy,Option.isSome_map];rw[Array.find?_isSome];show⟨_,Array.getElem_mem hl,hp⟩
  show wpAny_updatePart ho (fin (es':=es.modify i λe=>{e with val:=v}) (ep':=m) (by simp only[Obj.putName_eq,Obj.putNameByArray,hi]) (hk.modify _ _) (λx=>findBy_modify (λn v=>v.isStr n) Value.isStr_inj es name x v i hi) ?_);rw[Array.size_modify,F6,w];show g
 |none=>
  show wpAny_updatePart ho (fin (es':=es.push ⟨_,_,v⟩) (ep':=m+1) (by simp only[Obj.putName_eq,Obj.putNameByArray,hi];rfl) (hk.push _ _ _ _) (λx=>?_) ?_)
  · show findBy_push (λn v=>v.isStr n) es name x _ _ v (λy=>by
     change (name==y)=decide (y=name)
     by_cases h:y=name
     · subst h;simp
     · have:¬name=y:=λe=>h e.symm;simp[h,this]) hi
  · have w:(kvs.lookup name).isSome=false:=by
     have e:nsFind es name=kvs.lookup name:=hm name;rw[<-e];simp only[nsFind,findBy,Option.isSome_map];rw[<-Bool.not_eq_true,Array.find?_isSome]
     rintro⟨x,hx,hp⟩
     rw[Array.findIdx?_eq_none_iff] at hi;rw[hi x hx] at hp;ext hp
    rw[Array.size_push,F6,w];show my g
def O2 (hk:env.scope.kind=.function)(hl:env.kindOf name=some .local)(hn:s.heap.Ns env.locals λx=>kvs.lookup x)(hz:s.heap.DictLe env.locals kvs.length)
 (h:∀h',h'.Ns env.locals (λx=>(put name v kvs).lookup x)->(∀b o,b≠env.locals->s.heap.get? b=some o->h'.get? b=some o)->h'.DictLe env.locals (put name v kvs).length->Q () {s with heap:=h',toks:=s.toks+1}):
 wpAny M A (storeName env name v) Q E s:=by
 rw[storeName_local hl (by show(hk)▸?_;rfl)];show Qw hn hz h
end
def cB (j:Int)(k:Bool->Prop):Prop:=Bool.rec (Bool.rec False (k true) (decide (j=1))) (k false) (decide (j=0))
def Ja {j:Int}{k}{P:Prop}(h:cB j k)(q:∀b,j=CZ b->k b->P):P:=by
 unfold cB at h;cases e:decide (j=0) with
 |true=>rw[e] at h;show q false (AAL e) h
 |false=>
  rw[e] at h;cases a:decide (j=1) with
  |true=>rw[a] at h;show q true (AAL a) h
  |false=>rw[a] at h;show h.elim
def np (σ:AC)(d:Nat)(fs:List (Str×AV))(x:Str)(av:AV):=σ.set d (some (.ns (put x av fs)))
def IN (fr:Fr)(x:Str)(av:AV)(σ:AC)(k:AC->Prop):Prop:=AD (fr.scope.names.lookup x) λkd=>match kd with|.local=>Tv σ fr.lid λfs=>k (np σ fr.lid fs x av)|.cell=>IM σ fr x λi Z=>k (σ.set i (some (.cell (some av))))|_=>False
def Qx (T:Hj)(o:AV)(n:Str)(v:AV)(σ:AC)(k:AC->Prop):Prop:=
 AW (rG σ o) (λZ=>As (n==("number":Str)) (k σ)) <| Tw σ o λC d fs=>AD (T.absent.lookup C) λl=>As (l.contains n) (KC fs.length (k (np σ d fs n v)))
def Qy (o i v:AV)(σ:AC)(k:AC->Prop):Prop:=AD (Cp i) λj=>Cj σ o λc ao=>
 AW (Lk ao) (λxs=>As (Tx j) (AD (seqIndex? j xs.length) λm=>k (σ.set c (some (.list (xs.set m v))))))
 (AW (Iq ao) (λes=>KC es.length (k (σ.set c (some (.idict (put j v es))))))
 (AD (M9 ao) λx=>cB j λb=>k (σ.set c (some (.iset (Bool.rec true x.1 b) (Bool.rec x.2 true b))))))
def Qz (o i:AV)(σ:AC)(k:AC->Prop):Prop:=AD (Cp i) λj=>Cj σ o λc ao=>
 AD (M9 ao) λx=>cB j λb=>(Bool.rec x.1 x.2 b:Bool)/\k (σ.set c (some (.iset (Bool.rec false x.1 b) (Bool.rec x.2 false b))))
section
variable {P:Program}{W:World}{γ:List Addr}{h:Heap}{a:Addr}
theorem AL.iset (r:AL P W γ h (.iset b c) a):∃kvs,DB (kvs.map (·.1)) b c/\h.DictOf (intKind P W) a kvs:=Bj r λZ Z ho k Z=>AH k λkvs k q=>⟨kvs,k,q h a ho⟩
theorem AL.ofIset (k:DB (kvs.map (·.1)) b c)(hd:h.DictOf (intKind P W) a kvs):AL P W γ h (.iset b c) a:=
 AH (O1 hd) λo ho x=>⟨o,[],ho,⟨kvs,k,x⟩,rfl⟩
theorem DictOf.nodup {K:Type} [DecidableEq K] {knd:PySem.KeyKind P W K}{kvs:List (K×Value)}(hd:h.DictOf knd a kvs):(kvs.map (·.1)).Nodup:=px hd λZ Z Z Z Z Z Z Z n=>n
def DB.shape {j}{b c}(h:DB j b c)(hn:j.Nodup):(j=[]/\b=false/\c=false)∨(j=[0]/\b/\c=false)∨(j=[1]/\b=false/\c)∨(j=[0,1]/\b/\c)∨(j=[1,0]/\b/\c):=by
 obtain⟨all,h0,h1⟩:=h;have e0:b=false->(0:Int) ∉ j:=λe m=>(all 0 m).elim (λq=>mw (e.symm.trans q.2)) λq=>absurd q.1 ∅;have e1:c=false->(1:Int) ∉ j:=λe m=>(all 1 m).elim (λq=>absurd q.1 ∅) λq=>mw (e.symm.trans q.2);have two:∀k∈j,k=0∨k=1:=λk m=>(all k m).imp And.left And.left;cases j with
 |nil=>cases b with|true=>cases h0 rfl|false=>cases c with|true=>cases h1 rfl|false=>show .inl ⟨rfl,rfl,rfl⟩
 |cons x r=>
  have a:∀y∈r,y≠x:=λy d e=>(List.nodup_cons.mp hn).1 (e▸d);have tail:∀z,(∀y∈r,y=z)->r=[]∨r=[z]:=λz hz=>by
   cases r with
   |nil=>show .inl rfl
   |cons y r=>
    cases hz y (.head _);cases r with
    |nil=>show .inr rfl
    |cons w r=>cases hz w (.tail _ (.head _));show absurd (.head _) (List.nodup_cons.mp (List.nodup_cons.mp hn).2).1
  rcases two x (.head _) with rfl|rfl
  · have hb:b:=by cases q:b with|true=>rfl|false=>show absurd (.head _) (e0 q)
    rcases tail 1 λy d=>(two y (.tail _ d)).resolve_left (a y d) with rfl|rfl
    · show .inr (.inl ⟨rfl,hb,?_⟩);cases q:c with|false=>rfl|true=>simpa using h1 q
    · show .inr (.inr (.inr (.inl ⟨rfl,hb,?_⟩)));cases q:c with|true=>rfl|false=>show absurd (.tail _ (.head _)) (e1 q)
  · have hb:c:=by cases q:c with|true=>rfl|false=>show absurd (.head _) (e1 q)
    rcases tail 0 λy d=>(two y (.tail _ d)).resolve_right (a y d) with rfl|rfl
    · show .inr (.inr (.inl ⟨rfl,?_,hb⟩));cases q:b with|false=>rfl|true=>simpa using h0 q
    · show .inr (.inr (.inr (.inr ⟨rfl,?_,hb⟩)));cases q:b with|true=>rfl|false=>show absurd (.tail _ (.head _)) (e0 q)
def DB.len {j}{b c}(h:DB j b c)(hn:j.Nodup):j.length<=2:=by
 rcases h.shape hn with ⟨h,_⟩|⟨h,_⟩|⟨h,_⟩|⟨h,_⟩|⟨h,_⟩<;>(subst h;decide)
def F8 {K:Type} [DecidableEq K] (k:K) v:∀ {kvs:List (K×Value)},(kvs.map (·.1)).Nodup->stored kvs k v=put k v kvs:=by
 intro kvs
 induction kvs with
 |nil=>intro _;rfl
 |cons x r ih=>
  intro hn;rw[Zg,List.nodup_cons] at hn;have ih:=ih hn.2;rw[Qp];unfold stored at ih ⊢
  by_cases e:x.1=k
  · rw[List.any_cons,Fy e,Bool.true_or,if_pos rfl,Fz.mpr e.symm,Zg,if_pos e,e];show congrArg _ (PySem.map_eq_self λy a=>if_neg λq=>hn.1 (Zs.mpr ⟨y,a,q.trans e.symm⟩))
  · rw[List.any_cons,Zr e,Bool.false_or,ug.mpr (Ne.symm e),<-ih];dsimp only;cases r.any λb=>decide (b.1=k) with|true=>rw[if_pos rfl,if_pos rfl,Zg,if_neg e]|false=>rw[if_neg mw,if_neg mw,List.cons_append]
def HN {k y}{v}:∀ {kvs:List (Int×Value)},y∈(put k v kvs).map (·.1)<->y∈kvs.map (·.1)∨y=k:=by
 intro kvs
 induction kvs with
 |nil=>change y∈[k]<->_;simp
 |cons x r ih=>
  rw[Qp];cases e:k==x.1 with
  |true=>cases Fz.mp e;show⟨.inl,λq=>q.elim id λq=>q▸ .head _⟩
  |false=>
   dsimp only;rw[Zg,QP,ih,Zg,QP,or_assoc]
def DB.put (x:Bool)(v:Value)(h:DB (kvs.map (·.1)) b c):DB ((Internal.put (CZ x) v kvs).map (·.1)) (Bool.rec true b x) (Bool.rec c true x):=by
 obtain⟨h1,a,h3⟩:=h;cases x with
 |false=>show⟨λk hk=>(HN.mp hk).elim (λhk=>(h1 k hk).imp (λq=>⟨q.1,rfl⟩) id) λq=>.inl ⟨q,rfl⟩,λZ=>HN.mpr (.inr rfl),λhc=>HN.mpr (.inl (h3 hc))⟩
 |true=>show⟨λk hk=>(HN.mp hk).elim (λhk=>(h1 k hk).imp id λq=>⟨q.1,rfl⟩) λq=>.inr ⟨q,rfl⟩,λhb=>HN.mpr (.inl (a hb)),λZ=>HN.mpr (.inr rfl)⟩
def DV {kvs}{k y:Int}:y∈(PySem.without kvs k).map (·.1)<->y∈kvs.map (·.1)/\y≠k:=by
 unfold PySem.without;simp only[Zs,List.mem_filter,decide_eq_true_eq]
 constructor
 · rintro⟨p,⟨h1,a⟩,rfl⟩;show⟨⟨p,h1,rfl⟩,a⟩
 · rintro⟨⟨p,h1,rfl⟩,a⟩;show⟨p,⟨h1,a⟩,rfl⟩
def DB.cut {kvs:List (Int×Value)}{b c:Bool} x (h:DB (kvs.map (·.1)) b c):DB ((PySem.without kvs (CZ x)).map (·.1)) (Bool.rec false b x) (Bool.rec c false x):=by
 obtain⟨h1,a,h3⟩:=h;cases x with
 |false=>show⟨λk hk=>.inr ((h1 k (DV.mp hk).1).resolve_left λq=>(DV.mp hk).2 q.1),λq=>(nomatch q),λhc=>DV.mpr ⟨h3 hc,∅⟩⟩
 |true=>show⟨λk hk=>.inl ((h1 k (DV.mp hk).1).resolve_right λq=>(DV.mp hk).2 q.1),λhb=>DV.mpr ⟨a hb,∅⟩,λq=>(nomatch q)⟩
end
section
variable {K:Frag}{S:St}{T:Hj}{A:Around}{c:At S}{fr:Fr}{env:Env}
theorem WU.put {m}{k}{i}{ao ao'}{a}(e:live c.σ i ao)(d:c.γ[i]?=some a)(hk:k (c.σ.set i (some ao')))
 (h:∀E (Q:Unit->Shared->Prop),(∀h' t,(∀b o,b≠a->c.h.get? b=some o->h'.get? b=some o)->(TK c.h h'->AL S.prog S.w c.γ h' ao' a)->Q () {c.s with heap:=h',toks:=t})->wpAny S.mdl A m Q E c.s):WU A c m k:=
  λE Q q=>h E Q λh' t f x=>q () (c.put t e d f λZ q tk=>by ext q;show x tk) () hk (c.le_put ..) trivial
def Fj (n:AR c.γ fr env){x}{av}{v}{k}(l:c.VR av v)(h:IN fr x av c.σ k):WU A c (storeName env x v) k:=by
 obtain⟨hk,L,F,cl,h1,s,h3,rfl⟩:=n;show AA h λkd hl h=>?_;cases kd with
 | «local» =>
   show Ec h λfs e h=>WU.put e h1 h λE Q q=>by
    show Ek ((c.R.cells _ _ _ e h1).ns) λkvs p hn hz=>?_;show O2 hk hl hn hz λh' d f g=>q h' _ f λtk=>.ofNs ((p.mono (.refl _) tk).put (l.mono (.refl _) tk)) d g
 |cell=>
  show Gg h3 h λi v a m r e h=>WU.put e m h λE Q q=>by
   obtain⟨ov,hc⟩:=(c.R.cells _ _ _ e m).cell_any;show wpAny_storeName_cell hk hl (r _) hc λh' j f=>q h' _ (λb o ne e=>(f.2 b ne).trans e) λtk=>.ofCell j (l.mono (.refl _) tk)
 |_=>show h.elim
def cC {σ}{i}{o}(e:live σ i o):σ.set i (some o)=σ:=by
 apply List.ext_getElem?;intro j
 by_cases h:i=j
 · subst h;rw[e.set_self];show e.symm
 · rw[List.getElem?_set_ne h]
def Q2 (H:BX K S T){C ad j}{l}{kvs}{n}{v}(u:T.absent.lookup C=some l)(hc:l.contains n)(ho:c.h.get? ad=some (instObj C j))(hn:c.h.Ns j λx=>kvs.lookup x)(hz:c.h.DictLe j kvs.length)(hl:kvs.length<=1000)
 {E} {Q} (q:∀h' t,(∀b o,b≠j->c.h.get? b=some o->h'.get? b=some o)->h'.Ns j (λx=>(put n v kvs).lookup x)->h'.DictLe j (put n v kvs).length->Q () {c.s with heap:=h',toks:=t}):wpAny S.mdl A (setAttr (.ref ad) n v) Q E c.s:=by
  show M2 (H.cls C l u) λc1 G d w=>?_;have X:=H.X.keeps c.R.keep;obtain⟨s1,s2⟩:=H.sets C l u;show AH (JZ hn) λy k Z=>?_;have I:InstAt c.h ad (instObj C j) C (some y):=⟨ho,rfl,rfl,k⟩
  show set_plain X I s1 (osa_open (s:={c.s with toks:=c.s.toks+1}) X I s2 (r:=none) (by unfold takerIn;rw[w n (LK.mp hc)];rfl) λb=>?_);unfold hasDictIn at d;cases m:clsIn K C with
  |none=>rw[m] at d;ext d
  |some z=>
   rw[m] at d;have p:z.hasDict:=d;show An (B9 (An (An (wpAny_loadPart ho (An (Looks.here (s:={c.s with toks:=c.s.toks+1}) (looks_clsIn X m) ?_))))));rw[p];show B9 (a:=some j) (An (B9 (An ?_)));show Qw (s:={c.s with toks:=c.s.toks+1}) hn hz λh' f B g=>?_;show zU (id f) λD es' ep' h i Z=>?_;have F:=g D es' ep' h i;have hp:(put n v kvs).length<=kvs.length+1:=by rw[F6];cases (kvs.lookup n).isSome<;>first|show QJ _|show Nat.le_succ _
   show An (wpAny_lookBehind h (by show(i)▸?_;show pastItsLine_dict ?_;show(KY)▸?_;lia) ?_);show B9 (q h' _ B f g)
def cD k (c:Int) r:(M7 k c r).length<=7:=by
 change (Fi (J9 k) ([]:List (Str×AV)) [] [("divisor",AV.d (.int 1))]).length+6<=7;show Na (p:=λl:List (Str×AV)=>l.length+6<=7) ∅ ∅ ∅ _
theorem Q3 (H:BX K S T){o a}{n}{k}{u v}(r:c.VR o u)(p:c.VR a v)(h:Qx T o n a c.σ k):WU A c (setAttr u n v) k:=
 AE h (λy s h=>Nl s r λad w kvs ho hd i g hn hz=>AG h λen h=>WU.put (ao':=.kd .vn y.2.2.1 y.2.2.2.1 y.2.2.2.2) i hd (by rw[cC i];show h) λE Q q=>by
  cases Fz.mp en;show pv (H.virt y.1) λl ms j Z Z z=>?_;show Q2 H j (DQ.mp z).2 ho hn hz (by have:=cD y.2.2.1 y.2.2.2.1 y.2.2.2.2;have:=g.length;lia) λh' t m b f=>q h' t m λtk=>?_;show AL.ofNs (fs:=M7 _ _ _) ((g.mono (.refl _) tk).put (x:=("number":Str)) (av:=.d .any) trivial) b f) λh=>
 AAT h r λC d fs ad w kvs ho hd i g hn hz h=>AA h λl j h=>AG h λhc h=>WU.put i hd (BF h).2 λE Q q=>by
  have hl:=(BF h).1;show Q2 H j hc ho hn hz (by have:=g.length;lia) λh' t m b f=>q h' t m λtk=>.ofNs ((g.mono (.refl _) tk).put (p.mono (.refl _) tk)) b f
def Q4 {o i a:AV}{k}{s vi v:Value}(z:c.VR o s)(B:c.VR i vi)(u:c.VR a v)(h:Qy o i a c.σ k):WU A c (setItem s vi v) k:=by
 show AA h λj ej h=>A9 ej B λt=>Al h z λi ao ad l p r h=>AE h (λxs ex h=>?_) λh=>AE h (λes ex h=>?_) λh=>AA h λx ex h=>?_
 · show AG h λg h=>AA h λm w h=>WU.put p l h λE Q q=>?_;obtain⟨its,⟨n,ho⟩,rs⟩:=AL.items (xs:=xs) (by show(BQ ex)▸?_;rfl) r;rw[rs.length,Ej] at w;have g:=Nn g;have fin:Q () {c.s with heap:=c.s.heap.update ad (Obj.mapSeq (·.setIfInBounds m v))}:=q _ c.s.toks (λb o ne e=>((pn ..).2 b ne).trans e) λtk=>
    .ofItems (xs:=xs.set m a) (its:=its.setIfInBounds m v) rfl ⟨_,PySem.IsL.update (n:=n) ho _⟩ (by rw[Array.toList_setIfInBounds];show(rs.mono (.refl _) tk).set (u.mono (.refl _) tk))
   show No w (λh0 h1 e=>?_) λh0 h1 e=>?_<;>subst e
   · show ki_setAt ho h0 (by have:=g.2;lia) h1 fin
   · show ki_setBack ho h0 (by lia) (by have:=g.1;lia) fin
 · obtain⟨hz,h⟩:=BF h;show AH (AL.idict (CH ex▸r)) λkvs y hd=>?_;show WU.put p l h λE Q q=>wpAny_setItem_pairs (knd:=intKind S.prog S.w) (k:=j) (FU j t) hd (λh' d f=>?_) (by rw[y.length,KY];lia);rw[F8 _ _ (DictOf.nodup hd)] at d;show q h' _ (λb o ne e=>(f.2 b ne).trans e) λtk=>.ofIdict ((y.mono (.refl _) tk).put (u.mono (.refl _) tk)) d
 · show Ja h λb ej hb=>?_;subst ej;show AH (AL.iset (DU ex▸r)) λkvs hk hd=>?_;show WU.put p l hb λE Q q=>wpAny_setItem_pairs (knd:=intKind S.prog S.w) (k:=CZ b) (FU (CZ b) t) hd (λh' d f=>?_) (by have:=hk.len (DictOf.nodup hd);rw[Ei] at this;show(KY)▸?_;lia);rw[F8 _ _ (DictOf.nodup hd)] at d;show q h' _ (λb o ne e=>(f.2 b ne).trans e) λZ=>.ofIset (hk.put b v) d
def Q5 {o i:AV}{k}{m vi:Value}(n:c.VR o m)(s:c.VR i vi)(h:Qz o i c.σ k):WU A c (delItem m vi) k:=by
 show AA h λj ej h=>A9 ej s λt=>Al h n λi ao ad u w r h=>AA h λx ex h=>Ja h λb ej hb=>?_;subst ej;show AH (AL.iset (DU ex▸r)) λkvs hk hd=>?_;have a:CZ b∈kvs.map (·.1):=by
  cases b with
  |false=>show hk.zero hb.1
  |true=>show hk.one hb.1
 have hl:=hk.len (DictOf.nodup hd);rw[Ei] at hl;show WU.put w u hb.2 λE Q q=>?_;unfold delItem;show QK (An (wpAny_sequenceKey hd.typeIs ∅ (An (wpAny_callSpecial?_slot (name:=Str.ofString "__delitem__") hd.typeIs PySem.F.slot_dict_delitem
  (call_meetsIn PySem.F.slot_dict_delitem hd.typeIs PySem.F.entry_dict_delitem (PySem.F.args_dict_delitem_2 _ _) (meets_dict_delitem_pairs (intKind S.prog S.w) _ (FU (CZ b) t)) ⟨kvs,hd,by rw[KY];lia,?_,λh' d f=>?_⟩)))))
 · rw[Cy];cases qv:kvs.lookup (CZ b) with
   |some v=>rfl
   |none=>
    show AH (Zs.mp a) λp g l=>?_;rw[List.lookup_eq_none_iff] at qv;have:=qv p g;rw[l] at this;simp at this
 · show B9 (q h' _ (λb o ne e=>(f.2 b ne).trans e) λZ=>.ofIset (hk.cut b) d)
end
def O3 (o:AO):Option (List Dt×Nat):=match o with|.titer xs i=>some (xs,i)|_=>none
def HO (o:AO):Option (Nat×Nat):=match o with|.liter s i=>some (s,i)|_=>none
def Kl (o:AO):Option (Int×Nat):=match o with|.riter x n=>some (x,n)|_=>none
def T2 (o:AO):Option (Nat×Nat):=match o with|.enum s i=>some (s,i)|_=>none
def Q6 (o:AO):Option (Int×Int):=match o with|.rng x y=>some (x,y)|_=>none
def nr (o:AO):Option (Nat×Nat×Nat×Nat):=match o with|.kiter d i n e=>some (d,i,n,e)|_=>none
def T3 (e:nr o=some x):o=.kiter x.1 x.2.1 x.2.2.1 x.2.2.2:=by
 show Ap (p:=λx=>o=.kiter x.1 x.2.1 x.2.2.1 x.2.2.2) ?_ e;cases o<;>trivial
def Iu (e:O3 o=some x):o=.titer x.1 x.2:=by
 show Ap (p:=λx=>o=.titer x.1 x.2) ?_ e;cases o<;>trivial
def F9 (e:HO o=some x):o=.liter x.1 x.2:=by
 show Ap (p:=λx=>o=.liter x.1 x.2) ?_ e;cases o<;>trivial
def Iv (e:Kl o=some x):o=.riter x.1 x.2:=by
 show Ap (p:=λx=>o=.riter x.1 x.2) ?_ e;cases o<;>trivial
def KI (e:T2 o=some x):o=.enum x.1 x.2:=by
 show Ap (p:=λx=>o=.enum x.1 x.2) ?_ e;cases o<;>trivial
def GA {o}{x}(e:Q6 o=some x):o=.rng x.1 x.2:=by
 show Ap (p:=λx=>o=.rng x.1 x.2) ?_ e;cases o<;>trivial
def cE (t:Dt)(k:List Dt->Prop):=AW (JS t) k (AD (KH t) λd=>d.length<=2/\(d=[]->k [])/\(∀p,d=[p]->k [pairD p])/\∀p q,d=[p,q]->k [pairD p,pairD q])
@[elab_as_elim] def Lw {h:Heap} {t:Dt} {v:Value} {k:List Dt->Prop} {P:Value->Prop} (e:cE t k) (r:Ah h t v) (q:∀l ad its,h.IsTuple ad its->Ad h l its.toList->k l->P (.ref ad)):P v:=by
 show AE e (λl b h=>Dy b r λad its a rs=>q l ad its a rs h) λh=>AA h λd c h=>?_;rw[Dp c] at r;obtain⟨ad,its,rfl,a,rs⟩:=r;show q (d.map pairD) ad its a (Ow rs) ?_;obtain⟨h0,h1,f,h3⟩:=h
 match d with
 |[]=>show h1 rfl
 |[p]=>show f p rfl
 |[p,g]=>show h3 p g rfl
 |_::_::_::_=>show absurd h0 (by simp)
def cF (o:AO):Bool:=match o with|.titer .. =>true|.liter .. =>true|.riter .. =>true|.enum .. =>true|.kiter .. =>true|_=>false
def V8 (v:AV)(σ:AC)(k:Nat->AC->Prop):Prop:=
 AW (Ff v) (λt=>cE t λl=>k σ.length (σ++[some (.titer l 0)]))
  (Cj σ v λi ao=>AW (items ao) (λZ=>k σ.length (σ++[some (.liter i 0)]))
    (AW (Q6 ao) (λx=>As (Builtin.Range.small x.1 x.2 1&&decide (x.1<=x.2)) (k σ.length (σ++[some (.riter x.1 (x.2-x.1).toNat)])))
      (AW (Iq ao) (λes=>∀a:Nat,k σ.length (σ.set i (some (.edict es a))++[some (.kiter i 0 es.length a)])) (As (cF ao) (k i σ)))))
section
variable {P:Program}{W:World}{γ:List Addr}{h:Heap}{a:Addr}
def AL.liter {s i}(r:AL P W γ h (.liter s i) a):∃l,h.IsListIter a l i/\γ[s]?=some l:=by
 obtain⟨o,vs,ho,⟨l,rfl,q⟩,v,c,e,⟨d,b,hd⟩,_⟩:=r;ext e;ext b;show⟨_,q h a ho,hd⟩
theorem AL.ofLiter {s i}{l}(hi:h.IsListIter a l i)(c:γ[s]?=some l):AL P W γ h (.liter s i) a:=
 AH hi λo ho x=>⟨o,[.ref l],ho,⟨l,rfl,λZ Z b=>⟨o,b,x⟩⟩,_,_,rfl,⟨_,rfl,c⟩,rfl⟩
def AL.titer {xs}{i}(r:AL P W γ h (.titer xs i) a):∃t its,h.IsTupleIter a t i/\h.IsTuple t its/\Ad h xs its.toList:=by
 obtain⟨o,vs,ho,⟨l,rfl,q⟩,v,d,e,⟨t,its,b,c,hx⟩,_⟩:=r;ext e;ext b;show⟨_,_,q h a ho,c,hx⟩
theorem AL.ofTiter {xs}{i}{t}{its}(hi:h.IsTupleIter a t i)(c:h.IsTuple t its)(hx:Ad h xs its.toList):AL P W γ h (.titer xs i) a:=
 AH hi λo ho x=>⟨o,[.ref t],ho,⟨t,rfl,λZ Z b=>⟨o,b,x⟩⟩,_,_,rfl,⟨_,_,rfl,c,hx⟩,rfl⟩
theorem AL.riter {x:Int}{n}(r:AL P W γ h (.riter x n) a):IsRangeIter h a x n 1:=Bj r λZ Z ho q Z=>q h a ho
theorem AL.ofRiter {x:Int}{n:Nat}(hi:IsRangeIter h a x n 1):AL P W γ h (.riter x n) a:=⟨_,[],hi,λZ Z b=>b,rfl⟩
def AL.enum {s i}(r:AL P W γ h (.enum s i) a):∃b old,IsEnum h a b i old/\γ[s]?=some b:=by
 obtain⟨o,vs,ho,⟨b,old,rfl,q⟩,v,d,e,⟨f,c,hd⟩,_⟩:=r;ext e;ext c;show⟨_,_,q h a ho,hd⟩
theorem AL.ofEnum {s i:Nat}{b:Addr}{old:Value}(hi:IsEnum h a b i old)(d:γ[s]?=some b):AL P W γ h (.enum s i) a:=
 ⟨_,[.ref b],hi,⟨b,old,rfl,λZ Z c=>c⟩,_,_,rfl,⟨_,rfl,d⟩,rfl⟩
def AL.kiter {d i n e}(r:AL P W γ h (.kiter d i n e) a):∃b,h.IsKeyIter a b i n e/\γ[d]?=some b:=by
 obtain⟨o,vs,ho,⟨b,rfl,q⟩,v,g,f,⟨j,c,hd⟩,_⟩:=r;ext f;ext c;show⟨_,q h a ho,hd⟩
theorem AL.ofKiter {d i n e}{b}(hi:h.IsKeyIter a b i n e)(f:γ[d]?=some b):AL P W γ h (.kiter d i n e) a:=
 AH hi λo ho x=>⟨o,[.ref b],ho,⟨b,rfl,λZ Z c=>⟨o,c,x⟩⟩,_,_,rfl,⟨_,rfl,f⟩,rfl⟩
theorem AL.rng {x y:Int}(r:AL P W γ h (.rng x y) a):∃t u v,IsRange h a x y 1 t u v:=Bj r λZ Z ho k Z=>XY k λt u v q=>⟨t,u,v,q h a ho⟩
theorem AL.ofRng {x y:Int}{t u v}(hi:IsRange h a x y 1 t u v):AL P W γ h (.rng x y) a:=⟨_,[],hi,⟨t,u,v,λZ Z b=>b⟩,rfl⟩
end
def rangeSize_one {x y:Int}(h:x<=y):Builtin.Range.rangeSize x y 1=((y-x).toNat:Int):=by
 unfold Builtin.Range.rangeSize;rw[if_pos ∅,Int.ediv_one];lia
section
variable {S:St}{A:Around}{c:At S}
def At.alloc (c:At S)(o:Obj){ao:AO}(x:AL S.prog S.w (c.γ++[c.h.objs.size]) (c.h.push o) ao c.h.objs.size):At S:=
 c.new (a:=c.h.objs.size) (h':=c.h.push o) c.s.toks (Bw _) (λZ Z e=>JQ _ e) x
theorem At.le_alloc (c:At S) o {ao}(x:AL S.prog S.w (c.γ++[c.h.objs.size]) (c.h.push o) ao c.h.objs.size):c.le (c.alloc o x):=c.le_new ..
theorem TK.push h o:TK h (h.push o):=.keeps λZ Z e=>JQ _ e
def At.IR (c:At S)(i:Nat)(v:Value):=∃a,v=.ref a/\c.γ[i]?=some a
def Lx (r:c.VR v x)(h:V8 v c.σ k):W At.IR A c (pyIter x) k:=by
 intro E Q q;have fin:∀ {ao:AO} (o:Obj) (y:AL S.prog S.w (c.γ++[c.h.objs.size]) (c.h.push o) ao c.h.objs.size),k c.σ.length (c.σ++[some ao])->Q (.ref c.h.objs.size) {c.s with heap:=c.h.push o}:=λo y hk=>q _ (c.alloc o y) _ hk (c.le_alloc ..) ⟨_,rfl,c.new_ref _⟩;show AE h (λt e h=>Lw h (A8 e r) λl ad its j rs h=>?_) λh=>Al h r λi ao ad a p r h=>AE h (λxs ex h=>?_) λh=>AE h (λx ex h=>AG h λm h=>?_) λh=>AE h (λes ex h=>?_) λh=>AG h λhi h=>?_
 · show wpAny_pyIter_tuple j (fin _ (.ofTiter (t:=ad) ⟨_,J6 _ rfl,rfl,rfl⟩ (TK.push _ _ _ _ j) (rs.mono (.push _ _))) h)
 · show AH (r.items ex) λits hp Z=>?_;show wpAny_pyIter_list hp.isList (fin _ (.ofLiter ⟨_,J6 _ rfl,rfl,rfl⟩ (Ka.get ⟨_,rfl⟩ a)) h)
 · have h1:=aL m;have s:=aR m;rw[GA ex] at r;show XY r.rng λZ Z Z hr=>?_;show wpAny_pyIter_range hr h1 (fin _ (.ofRiter ?_) h);change Heap.get? _ _=_;show(rangeSize_one (AAL s))▸?_;show J6 _ rfl
 · show bK (AL.idict (CH ex▸r)) λkvs n o es' d f x=>?_;have hd:c.h.DictAt (intKind S.prog S.w) ad kvs d:=⟨o,es',f,x⟩
   show wpAny_pyIter_dict (knd:=intKind S.prog S.w) (c.R.noMods a) hd ?_
   let c1:At S:=c.view (ao':=.edict es d) p λu g Z=>by cases a.symm.trans g;show .ofEdict n hd
   have y:AL S.prog S.w (c1.γ++[c1.h.objs.size]) (c1.h.push {cls:=.type "dict_keyiterator",data:=.fields #[.ref ad,.int 0 0,.int kvs.length 0,.int d 0]}) (.kiter i 0 es.length d) c1.h.objs.size:=.ofKiter (b:=ad) (by show(n.length)▸?_;show⟨_,J6 _ rfl,rfl,rfl⟩) (Ka.get ⟨_,rfl⟩ a);have hk:=h d;rw[show c.σ.length=c1.σ.length from (List.length_set).symm] at hk;show q _ (c1.alloc _ y) _ hk ((c.le_view ..).trans (c1.le_alloc ..)) ⟨_,rfl,c1.new_ref _⟩
 · have fin:Q (.ref ad) c.s:=q _ c _ h (.refl c) ⟨_,rfl,a⟩;cases ao with|titer=>show Hi r.titer λZ Z hi Z=>?_;show wpAny_pyIter_tupleiter hi fin|liter=>show AH r.liter λZ hi Z=>?_;show wpAny_pyIter_listiter hi fin|riter=>show wpAny_pyIter_rangeiter r.riter fin|enum=>show Hi r.enum λZ Z hi Z=>?_;show wpAny_pyIter_enum hi fin|kiter=>show AH r.kiter λZ hi Z=>?_;show wpAny_pyIter_keyiter hi fin|_=>ext hi
def onD (a:AV)(k:Dt->Prop):=AD (Ff a) k
def V9 (e:Expr):=Nat.beq e.ctorIdx (Expr.Tuple [] default default).ctorIdx
def Q7 (ao:AO)(j:Nat)(k:Option AV->Prop):Prop:=
 AW (Lk ao) (λxs=>k xs[j]?) (AW (IK ao) (λx=>(j<x.2.length->Lp x.1 (x.2.getD j BY) λav=>k (some av))/\(x.2.length<=j->k none)) (AD (items ao) λxs=>k xs[j]?))
def w7 (n:Nat)(k0:Prop)(k1:Nat->Prop):Prop:=Bool.rec (k1 n.pred) k0 (Nat.beq n 0)
def nextT (i:Nat)(σ:AC)(k:Option AV->AC->Prop)(x:List Dt×Nat):Prop:=Option.rec (k none (σ.set i none)) (λt=>k (some (.d t)) (σ.set i (some (.titer x.1 (x.2+1))))) x.1[x.2]?
def rK (i:Nat)(σ:AC)(k:Option AV->AC->Prop)(x:Nat×Nat)(r:Option AV):Prop:=Option.rec (k none (σ.set i none)) (λav=>k (some av) (σ.set i (some (.liter x.1 (x.2+1))))) r
def nt (i:Nat)(σ:AC)(k:Option AV->AC->Prop)(x:Nat×Nat):Prop:=Db σ x.1 λlo=>Q7 lo x.2 (rK i σ k x)
def nu (i:Nat)(σ:AC)(k:Option AV->AC->Prop)(x:Int×Nat):Prop:=w7 x.2 (k none (σ.set i none)) λn=>k (some (.d (.int x.1))) (σ.set i (some (.riter (x.1+1) n)))
def rM (i:Nat)(σ:AC)(k:Option AV->AC->Prop)(x y:Nat×Nat)(t:Dt):=k (some (.d (.tup [.int x.2,t]))) ((σ.set x.1 (some (.liter y.1 (x.2+1)))).set i (some (.enum x.1 (x.2+1))))
def rN (i:Nat)(σ:AC)(k:Option AV->AC->Prop)(x y:Nat×Nat)(xs:List AV):Prop:=Option.rec (k none (σ.set x.1 none)) (λav=>onD av (rM i σ k x y)) xs[x.2]?
def nv (tg:Expr)(i:Nat)(σ:AC)(k:Option AV->AC->Prop)(x:Nat×Nat):Prop:=As (V9 tg) (Db σ x.1 λlo=>AD (HO lo) λy=>As (Nat.beq x.2 y.2) (Db σ y.1 λl=>AD (items l) (rN i σ k x y)))
def oA (i:Nat)(σ:AC)(k:Option AV->AC->Prop)(x:Nat×Nat×Nat×Nat):Prop:=Db σ x.1 λo=>AD (rH o) λy=>y.2=x.2.2.2/\y.1.length=x.2.2.1/\
 Option.rec (k none (σ.set i none)) (λe=>k (some (.d (.int e.1))) (σ.set i (some (.kiter x.1 (x.2.1+1) x.2.2.1 x.2.2.2)))) y.1[x.2.1]?
def cG (tg:Expr)(i:Nat)(σ:AC)(k:Option AV->AC->Prop):Prop:=Db σ i λao=>
 AW (O3 ao) (nextT i σ k) (AW (HO ao) (nt i σ k) (AW (Kl ao) (nu i σ k) (AW (T2 ao) (nv tg i σ k) (AD (nr ao) (oA i σ k)))))
def NA {ao:AO}{j:Nat}{k}{ad:Addr}{P:Prop}(h:Q7 ao j k)(r:AL S.prog S.w c.γ c.h ao ad)
 (q:∀xs its,items ao=some xs->c.h.PlainList ad its->AY c.γ c.h xs its.toList->k xs[j]?->P):P:=by
  show AE h (λxs ex h=>?_) λh=>AE h (λx ex h=>?_) λh=>AA h λxs ex h=>?_
  · have e:items ao=some xs:=by show(BQ ex)▸?_;rfl
    show AH (r.items e) λits hp rs=>?_;show q xs its e hp rs h
  · have e:items ao=some (x.2.map (Ch x.1)):=by show(Bf ex)▸?_;rfl
    show AH (r.items e) λits hp rs=>?_;show q _ its e hp rs ?_;show(Vm)▸?_
    by_cases a:j<x.2.length
    · have:=HM (k:=λav=>k (some av)) (h.1 a);rw[NS,FA a] at this;show(FA a)▸?_;show this
    · show(uH (jF a))▸?_;show h.2 (jF a)
  · show AH (r.items ex) λits hp rs=>?_;show q xs its ex hp rs h
def Km (ho:s.heap.get? it=some o)(hc:o.cls=.type n)
 (hn:(["enumerate","zip","dict_itemiterator","dict_reverseitemiterator","odict_iterator","itertools.zip_longest","itertools.pairwise"].contains n)=false) (h:Q () s):wpAny M A (letOwnedTupleGo tg (.ref it) v) Q E s:=by
 have main:wpAny M A (letOwnedTupleGo (.Tuple [] default default) (.ref it) v) Q E s:=by
  cases v with
  |ref a=>
   show An (wpAny_load ho ?_);obtain⟨cls,d,b,c⟩:=o;have hc:cls=.type n:=hc;subst hc;cases b with
   |fields vs=>dsimp only;rw[hn,Bool.false_and,if_neg ∅];show B9 h
   |_=>show B9 h
  |_=>show B9 h
 cases tg with
 |Tuple=>show main
 |List=>show main
 |_=>show B9 h
def Gz {α:Type}{o:Option α}{a:Prop}{b:α->Prop}{P:Prop}(h:(Option.rec a b o:Prop))(n:o=none->a->P)(s:∀x,o=some x->b x->P):P:=by
 cases o with
 |none=>show n rfl h
 |some x=>show s x rfl h
def w8 {l}{its:Array Value}{j:Nat}(r:AY c.γ c.h l its.toList)(e:l[j]?=none):its[j]?=none:=by
 rw[<-Vn,pq,<-r.length,<-pq];show e
def Nt (A:Around)(c:At S)(tg:Expr)(a:Addr)(k:Option AV->AC->Prop):Prop:=∀(E:F3) (Q:Unit->Value->Shared->Prop) (N:Shared->Prop),(∀c':At S,k none c'.σ->c.le c'->N c'.s)->(∀av (c':At S) v,k (some av) c'.σ->c.le c'->c'.VR av v->Q () v c'.s)->
 wpAny S.mdl A (pyNext (.ref a)) (λr s₁=>match r with|none=>N s₁|some v=>wpAny S.mdl A (letOwnedTupleGo tg (.ref a) v) (λu b=>Q u v b) E s₁) E c.s
variable {tg:Expr}{i:Nat}{a:Addr}{k:Option AV->AC->Prop}
theorem At.done {a:Nat}{ao':AO}{b:Addr}{N:Shared->Prop}(d:∀c':At S,k none c'.σ->c.le c'->N c'.s)(f:live c.σ a ao')(g:c.γ[a]?=some b)(hk:k none (c.σ.set a none)) h' (h:Heap.ExtBut b c.h h'):N {c.s with heap:=h'}:=
 d (c.put (co:=none) c.s.toks f g h (λZ q=>nomatch q)) hk (c.le_put ..)
theorem At.more {ao ao':AO}{av:AV}{v:Value}{Q:Unit->Value->Shared->Prop}(qs:∀av (c':At S) v,k (some av) c'.σ->c.le c'->c'.VR av v->Q () v c'.s)(d:live c.σ i ao)(f:c.γ[i]?=some a)(hk:k (some av) (c.σ.set i (some ao')))(g:c.VR av v)
 h' t (h:Heap.SameBut a c.h h') (x:TK c.h h'->AL S.prog S.w c.γ h' ao' a):Q () v {c.s with heap:=h',toks:=t}:=
  qs av (c.put t d f (λb o ne e=>(h.2 b ne).trans e) λZ q tk=>by ext q;show x tk) v hk (c.le_put ..) (At.le.vr (c.le_put ..) g)
def cH (m:A.handled=none){x:List Dt×Nat}(f:c.γ[i]?=some a)(g:live c.σ i (.titer x.1 x.2))(h:nextT i c.σ k x):Nt A c tg a k:=by
 show Bj ((c.R.cells _ _ _ g f).titer) λt its hi j hx=>?_;show Gz h (λe h E Q N l qs=>?_) λd e h E Q N l qs=>?_
 · show wpAny_pyNext_tuple_end m hi j (by rw[<-Vn,pq,<-hx.length,<-pq];show e) (At.done l g f h)
 · show AH (hx.get e) λv hv n=>?_;show wpAny_pyNext_tuple_item hi j (by rwa [Vn] at hv) λh' b p=>?_;show Ek b λo ho hc Z=>Km ho hc (by decide+kernel) (At.more qs g f h n h' _ p λtk=>.ofTiter b (tk _ _ j) (hx.mono tk))
def cI (p:A.handled=none){x:Nat×Nat}(d:c.γ[i]?=some a)(f:live c.σ i (.liter x.1 x.2))(h:nt i c.σ k x):Nt A c tg a k:=by
 show AH ((c.R.cells _ _ _ f d).liter) λl hi m=>?_;show BM h λlo g h=>NA h (c.R.cells _ _ _ g m) λxs its q hp rs h=>Gz h (λe h E Q N n qs=>?_) λav e h E Q N n qs=>?_
 · show wpAny_pyNext_list_end p hi hp.isList (w8 rs e) (At.done n f d h)
 · show AH (rs.get e) λv hv r=>?_;show wpAny_pyNext_list_item hi hp.isList (by rwa [Vn] at hv) λh' b j=>?_;show Ek b λo ho hc Z=>Km ho hc (by decide+kernel) (At.more qs f d h r h' _ j λtk=>.ofLiter b m)
def cJ (l:A.handled=none){x:Int×Nat}(d:c.γ[i]?=some a)(f:live c.σ i (.riter x.1 x.2))(h:nu i c.σ k x):Nt A c tg a k:=by
 have hi:=(c.R.cells _ _ _ f d).riter;obtain⟨x,n⟩:=x;cases n with
 |zero=>show λE Q N j qs=>wpAny_pyNext_range_end l hi (Int.le_refl 0) (At.done j f d h)
 |succ n=>
  show λE Q N j qs=>wpAny_pyNext_range_item hi (Int.ofNat_lt.mpr (Nat.succ_pos n)) λh' b g=>?_;rw[show ((n+1:Nat):Int)-1=(n:Int) from Int.add_sub_cancel (n:Int) 1] at b;show Km (o:={cls:=.type "range_iterator",dict:=none,data:=.fields #[rawInt (x+1),rawInt n,rawInt 1],slots:= #[]}) b rfl (by decide+kernel) (At.more (v:=.int x c.s.toks) qs f d h ⟨_,rfl⟩ h' _ g λtk=>.ofRiter b)
def cK (s:A.handled=none){x:Nat×Nat×Nat×Nat}(j:c.γ[i]?=some a)(l:live c.σ i (.kiter x.1 x.2.1 x.2.2.1 x.2.2.2))(h:oA i c.σ k x):Nt A c tg a k:=by
 show AH ((c.R.cells _ _ _ l j).kiter) λb hi p=>?_;show BM h λlo m h=>AA h λy u h=>?_;show QR h λh1 q h=>?_;show AH (AL.edict (Np u▸c.R.cells _ _ _ m p)) λkvs g hd=>?_;rw[h1] at hd;rw[<-q,<-g.length] at hi;show Gz h (λe h E Q N r qs=>?_) λav e h E Q N r qs=>?_
 · show wpAny_pyNext_dict_end (knd:=intKind S.prog S.w) s hi hd (by rw[pq,g.length,<-pq];show e) (At.done r l j h)
 · obtain⟨v,hv⟩:=g.at e;show wpAny_pyNext_dict_item (knd:=intKind S.prog S.w) hi hd hv λkey h' f d n=>?_;obtain⟨t,rfl⟩:=Xu f;rw[g.length,q] at d;show Ek d λo ho hc Z=>Km ho hc (by decide+kernel) (At.more (v:=.int av.1 t) qs l j h ⟨_,rfl⟩ h' _ n λtk=>.ofKiter d p)
def FC.put2 {γ}{σ}{s}(R:FC S γ σ s){i j}{ao C ao' u}{a b}{h'}{t}(p:live σ i ao)(g:live σ j C)(k:γ[i]?=some a)(l:γ[j]?=some b)(tk:TK s.heap h')
 (h:∀f o,f≠a->f≠b->s.heap.get? f=some o->h'.get? f=some o) (x:AL S.prog S.w γ h' ao' a) (y:AL S.prog S.w γ h' u b):FC S γ ((σ.set j (some u)).set i (some ao')) {s with heap:=h',toks:=t}:=by
  show R.next (by rw[List.length_set,List.length_set]) (λf o m n=>h f o (λq=>m (q▸uJ k)) (λq=>m (q▸uJ l)) n) (λd ao' ad e1 c=>?_) (λd ao' e1=>?_) rfl rfl
  · rcases EZ e1 with ⟨rfl,q,_⟩|⟨q1,e1⟩
    · ext q;rw[k] at c;ext c;show x
    · rcases EZ e1 with ⟨rfl,q,_⟩|⟨r,e1⟩
      · ext q;rw[l] at c;ext c;show y
      · show(R.cells d ao' ad e1 c).mono (.refl _) tk λo n=>h ad o (λq=>q1 (R.apart _ _ _ _ ad e1 p c (q▸k))) (λq=>r (R.apart _ _ _ _ ad e1 g c (q▸l))) n
  · rcases EZ e1 with ⟨rfl,_⟩|⟨_,e1⟩
    · show⟨_,p⟩
    · rcases EZ e1 with ⟨rfl,_⟩|⟨_,e1⟩
      · show⟨_,g⟩
      · show⟨_,e1⟩
def cL (R:A.handled=none){x:Nat×Nat}(C:c.γ[i]?=some a)(B:live c.σ i (.enum x.1 x.2))(h:nv tg i c.σ k x):Nt A c tg a k:=by
 show AG h λD h=>BM h λlo f h=>AA h λy S h=>AG h λF h=>BM h λl G h=>AA h λxs H h=>?_;have r:=c.R.cells _ _ _ B C;show Hi r.enum λb old he hi=>?_;have f:live c.σ x.1 (.liter y.1 x.2):=by show(LJ F)▸?_;show F9 S▸f
 have M:=c.R.cells _ _ _ f hi;show AH M.liter λT hl O=>?_;show AH ((c.R.cells _ _ _ G O).items H) λits hp rs=>?_;have u:a≠b:=λq=>by have:=c.R.apart _ _ _ _ a B f C (q▸hi);subst this;cases B.symm.trans f
 show Gz h (λe h E Q N P qs=>?_) λav e h=>AA h λt U hk E Q N P qs=>?_
 · show wpAny_pyNext_enum_end R he hl hp.isList (w8 rs e) (At.done P f hi h)
 · show AH (rs.get e) λv hv I=>?_;have I:=A8 (c:=c) U I;show wpAny_pyNext_enum_item he hl hp.isList (by rwa [Vn] at hv) u λw g j m Z n=>?_;have main:∀h',IsEnum h' a b ((x.2:Int)+1) v->Heap.SameBut a w h'->Q () (.ref c.h.objs.size) {c.s with heap:=h',toks:=c.s.toks+1}:=λh' J p=>by
    have z:∀s o,s≠a->s≠b->c.h.get? s=some o->h'.get? s=some o:=λs o n1 V W=>(p.2 s n1).trans (n s o n1 V W);have tk:TK c.h h':=λd its ⟨o,ho,r'⟩=>⟨o,z d o (λq=>r.notTuple its (q▸⟨o,ho,r'⟩)) (λq=>M.notTuple its (q▸⟨o,ho,r'⟩)) ho,r'⟩
    have K:h'.IsListIter b T (x.2+1):=AH j λo ho r'=>⟨o,(p.2 b (Ne.symm u)).trans ho,r'⟩
    have L:c.h.objs.size≠a:=λq=>by
     have:=Bw c.h;rw[q,show c.h.get? a=some _ from he] at this;ext this
    show qs (.d (.tup [.int x.2,t])) ⟨_,_,_,c.R.put2 (t:=c.s.toks+1) B f C hi tk z (.ofEnum J hi) (.ofLiter K O)⟩ _ hk ⟨.refl _,tk⟩ ⟨_,#[.int x.2 c.s.toks,v],rfl,⟨_,(p.2 _ L).trans m,rfl,0,rfl⟩,_,_,rfl,⟨_,rfl⟩,_,_,rfl,Ah.mono tk I,rfl⟩
   cases tg with
   |Tuple=>show wpAny_letOwnedTupleGo_enum g main
   |_=>ext D
theorem Q8 (b:A.handled=none)(d:c.γ[i]?=some a)(h:cG tg i c.σ k):Nt A c tg a k:=
 BM h λZ f h=>AE h (λx ex h=>cH b d (Iu ex▸f) h) λh=>AE h (λx ex h=>cI b d (F9 ex▸f) h) λh=>AE h (λx ex h=>cJ b d (Iv ex▸f) h) λh=>AE h (λx ex h=>cL b d (KI ex▸f) h) λh=>AA h λx ex h=>cK b d (T3 ex▸f) h
end
inductive FV where|next|brk|cont|ret (a:AV)
inductive Fk where
 |e (x:Expr)|es (xs:List Expr)|t (x:Expr)|ss (l:List Stmt)|s1 (x:Stmt)
 |asg (t:Expr) (a:AV)|asgs (ts:List Expr) (as:List AV)
 |wl (test:Expr) (body orelse:List Stmt)|fl (target:Expr) (it:Nat) (body orelse:List Stmt)
 |cl (x:Expr) (d it acc:Nat)
 |call (f:AV) (args:List AV)
def Nu (it:Fk):Type:=match it with|.e _=>AV|.es _=>List AV|.t _=>Bool|.asg _ _=>Unit|.asgs _ _=>Unit|.cl _ _ _ _=>Unit|.call _ _=>AV|_=>FV
abbrev Ih:=Fr->(it:Fk)->AC->(Nu it->AC->Prop)->Prop
structure Ay (A:Around) (n:Nat):Prop where
 depth:A.depth+2 * n<recursionLimit
 units:A.units+12 * n<cLine
 handled:A.handled=none
section
variable {S:St}
def At.FR (c:At S)(fl:FV)(f:Flow):Prop:=match fl with|.next=>f=.next|.brk=>f=.brk|.cont=>f=.cont|.ret a=>∃v,f=.ret v/\c.VR a v
structure At.leN (n:Nat) (c c':At S):Prop where
 pre:∀(i:Nat) (a:Addr),i<n->c.γ[i]?=some a->c'.γ[i]?=some a
 tk:TK c.s.heap c'.s.heap
theorem At.le.toN (x:c.le c') n:At.leN n c c':=⟨λZ Z Z e=>x.pre.get e,x.tk⟩
theorem At.le.transN {n}{c c' c'':At S}(x:c.le c')(y:At.leN n c' c''):At.leN n c c'':=⟨λi a h e=>y.pre i a h (x.pre.get e),x.tk.trans y.tk⟩
def At.leN.all (x:At.leN c.σ.length c c'):c.le c':=by
 show⟨⟨c'.γ.drop c.γ.length,?_⟩,x.tk⟩;apply List.ext_getElem?;intro i
 by_cases hi:i<c.γ.length
 · rw[mx hi,FA hi];show x.pre i _ (c.R.len▸hi) (FA hi)
 · rw[uh (jF hi),List.getElem?_drop];rw[uf (jF hi)]
def WK {ρ α:Type}(L:At S->At S->Prop)(rel:At S->ρ->α->Prop)(f:α->Flow)(A:Around)(c:At S)(m:Code)(k:ρ->AC->Prop):Prop:=
 ∀(Q:Result->Shared->Prop),(∀r (c':At S) x,k r c'.σ->L c c'->rel c' r x->Q (.ok (f x)) c'.s)->codeAny S.mdl A m Q c.s
def ER (L:At S->At S->Prop)(A:Around)(fr:Fr)(c:At S)(it:Fk)(k:Nu it->AC->Prop):Prop:=match it,k with|.wl t b o,k=>∀env,AR c.γ fr env->WK L At.FR id A c (.whileLoop t b o env) k|.fl t i b o,k=>∀env,AR c.γ fr env->∀a,c.γ[i]?=some a->WK L At.FR id A c (.forLoop t (.ref a) b o env) k|.cl x d i acc,k=>∀env,AR c.γ fr env->∀a b,c.γ[i]?=some a->c.γ[acc]?=some b->WK L At.UR (λZ=>.next) A c (.compLoop x d (.ref a) (.ref b) env) k|_,_=>True
def NB (A:Around)(fr:Fr)(c:At S)(it:Fk)(k:Nu it->AC->Prop):Prop:=match it,k with|.e x,k=>∀env,AR c.γ fr env->WV A c (eval x env) k|.es xs,k=>∀env,AR c.γ fr env->∀pos,W At.VRs A c (spliced (backTo pos (starEach xs env))) k|.t x,k=>∀env,AR c.γ fr env->WB A c (isTrue x env (eval x env)) k|.ss l,k=>∀env,AR c.γ fr env->W At.FR A c (execs l env) k|.s1 x,k=>∀env,AR c.γ fr env->W At.FR A c (exec x env) k|.asg t a,k=>∀env,AR c.γ fr env->∀v,c.VR a v->W At.UR A c (assign t env v) k|.asgs ts as,k=>∀env,AR c.γ fr env->∀vs,c.VRs as vs->W At.UR A c (assignInOrder ((assignEach ts env).map (·.2)) vs) k|.call f as,k=>∀b vs,c.VR f b->c.VRs as vs->WK At.le At.VR .ret A c (.call b ⟨vs,[]⟩) k|it,k=>ER At.le A fr c it k
def Good (S:St)(n:Nat)(ih:Ih):=∀fr it k (c:At S),ih fr it c.σ k->∀A,Ay A n->NB A fr c it k
def O4 (it:Fk):Bool:=match it with|.wl .. =>true|.fl .. =>true|.cl .. =>true|_=>false
def ER.imp (f:∀c',L c c'->j c c')(h:ER L A fr c it k):ER j A fr c it k:=by
 cases it with
 |wl=>show λenv he Q q=>h env he Q λr c' x hk l d=>q r c' x hk (f _ l) d
 |fl=>show λenv he a g Q q=>h env he a g Q λr c' x hk l d=>q r c' x hk (f _ l) d
 |cl=>show λenv he a b g i Q q=>h env he a b g i Q λr c' x hk l d=>q r c' x hk (f _ l) d
 |_=>trivial
def NB.loop (hi:O4 it)(h:ER At.le A fr c it k):NB A fr c it k:=by
 cases it with
 |wl=>show h
 |fl=>show h
 |cl=>show h
 |_=>ext hi
def NB.toL (h:NB A fr c it k):ER At.le A fr c it k:=by
 cases it with
 |wl=>show h
 |fl=>show h
 |cl=>show h
 |_=>trivial
end
def Cq (l:List Expr):Bool:=match l with|[]=>true|x::l=>!(Nat.beq x.ctorIdx (Expr.Starred default default).ctorIdx)&&Cq l
def KJ (h:Cq (e::l)) env:starEach (e::l) env=(false,eval e env)::starEach l env/\Cq l:=by
 cases e<;>first|show⟨rfl,h⟩|ext h
def FW (e:Expr):=!(Nat.beq e.ctorIdx (Expr.Set [] default default).ctorIdx)
def GB (h:FW e) op:behindInMarks op e=false:=by
 cases e<;>first|rfl|ext h
def Q9 (h':FW r'):lastMarks [op,j] [r,r']=false:=by
 simp[lastMarks,GB h']
def O5 (i:Expr):Option (Option Expr×Option Expr):=match i with|.Slice lo hi st _=>Option.rec (some (lo,hi)) (λZ=>none) st|_=>none
def O6 (e:O5 i=some x):∃p,i=.Slice x.1 x.2 none p:=by
 show Ap (p:=λx=>∃p,i=.Slice x.1 x.2 none p) ?_ e;cases i with
 |Slice lo hi st p=>cases st with|none=>show⟨p,rfl⟩|some=>trivial
 |_=>trivial
section
variable (T:Hj)(ih:Ih)
def WC (fr:Fr)(x:Option Expr)(σ:AC)(k:DK):Prop:=Option.rec (k (.d nn) σ) (λe=>ih fr (.e e) σ k) x
def O7 (fr:Fr)(l r:Expr)(σ:AC)(k:AV->AV->AC->Prop):=ih fr (.e l) σ λa σ=>ih fr (.e r) σ (k a)
def cM (x:Const)(k:AV->Prop):Prop:=match x with|.int i=>k (.d (.int i))|.str z=>k (.d (.str z))|.bool b=>k (ba b)|.none=>k (.d nn)|_=>False
def rP (l:List AV):Option (List RD):=match l with|[]=>some []|a::l=>Br (Option.rec (Br (Es a) λi=>some (.r i)) (λt=>some (.d t)) (Ff a)) λx=>Br (rP l) λr=>some (x::r)
def w9 (l:List AV)(k:AV->Prop):Prop:=KC l.length (AW (Hs l) (λl=>k (.d (.tup l))) (AD (rP l) λl=>k (.mt l)))
def oB (fr:Fr)(o:Expr)(σ:AC)(k:DK):Prop:=match o with|.Name x _=>bh T fr x true σ k|o=>ih fr (.e o) σ k
def WD (op:BoolOp)(b:Bool)(stop go:Prop):Prop:=match op with|.And=>Bool.rec stop go b|.Or=>Bool.rec go stop b
def oC (fr:Fr)(op:BoolOp)(vs:List Expr)(pos:Pos)(σ:AC)(k:DK):Prop:=match vs with|[]=>False|x::b=>(match b with|[]=>ih fr (.e x) σ k|y::l=>ih fr (.e x) σ λa σ=>Gy a λc=>fork c λc=>WD op c (k a σ) (ih fr (.e (.BoolOp op (y::l) pos)) σ k))
def oE (o:Expr):=Nat.beq o.ctorIdx (Expr.Name default default).ctorIdx||(Nat.beq o.ctorIdx (Expr.Attribute default default default).ctorIdx||Nat.beq o.ctorIdx (Expr.Subscript default default default).ctorIdx)
def xA (fr:Fr)(l:Expr)(c:List CmpOp)(rs:List Expr)(σ:AC)(k:DK):Prop:=match c with|[]=>False|op::c=>(match rs with|[]=>False|r::rs=>As (c.isEmpty&&rs.isEmpty&&FW r) (O7 ih fr l r σ λa b σ=>Xo op a b σ k))
def cN (fr:Fr)(o:Expr)(x:Option Expr×Option Expr)(σ:AC)(k:DK):Prop:=ih fr (.e o) σ λa σ=>WC ih fr x.1 σ λl σ=>WC ih fr x.2 σ λu σ=>cA a l u σ k
def xB (fr:Fr)(o i:Expr)(σ:AC)(k:DK):=oB T ih fr o σ λa σ=>ih fr (.e i) σ λb σ=>wz a b σ k
def oF (fr:Fr)(x:Expr)(σ:AC)(k:DK):Prop:=match x with|.Constant c _ _=>cM c λa=>k a σ|.Name x _=>bh T fr x false σ k|.BinOp l op r _=>O7 ih fr l r σ λa b σ=>ww op a b σ k|.UnaryOp op x _=>ih fr (.e x) σ λa σ=>unA op a σ k|.Compare l d rs _=>xA ih fr l d rs σ k|.IfExp t a b _=>ih fr (.t t) σ λc σ=>fork c λc=>Bool.rec (ih fr (.e b) σ k) (ih fr (.e a) σ k) c|.BoolOp op vs pos=>oC ih fr op vs pos σ k|.Tuple es _ _=>As (Cq es) (ih fr (.es es) σ λvs σ=>w9 vs λa=>k a σ)|.Subscript o i _=>AW (O5 i) (λx=>cN ih fr o x σ k) (xB T ih fr o i σ k)|.Attribute o n _=>As (oE o) (ih fr (.e o) σ λa σ=>ni T a n σ k)|_=>False
end
section
variable {T:Hj}{ih:Ih}{K:Frag}{S:St}{m:Nat}{A:Around}{fr:Fr}{env:Env}{c:At S}
theorem AR.at (l:c.le c')(h:AR c.γ fr env):AR c'.γ fr env:=h.mono l.pre
theorem Good.ev (G:Good S m ih)(hr:Ay A m)(a:AR c.γ fr env){x}{k}(h:ih fr (.e x) c.σ k):WV A c (eval x env) k:=G fr (.e x) k c h A hr env a
theorem Good.evs (G:Good S m ih)(hr:Ay A m)(a:AR c.γ fr env){x}{k}(h:ih fr (.es x) c.σ k){pos}:W At.VRs A c (spliced (backTo pos (starEach x env))) k:=G fr (.es x) k c h A hr env a pos
theorem Good.tr (G:Good S m ih)(hr:Ay A m)(a:AR c.γ fr env){x}{k}(h:ih fr (.t x) c.σ k):WB A c (isTrue x env (eval x env)) k:=G fr (.t x) k c h A hr env a
theorem Good.st (G:Good S m ih)(hr:Ay A m)(a:AR c.γ fr env){x}{k}(h:ih fr (.ss x) c.σ k):W At.FR A c (execs x env) k:=G fr (.ss x) k c h A hr env a
theorem Good.asg (G:Good S m ih)(hr:Ay A m)(b:AR c.γ fr env){t}{a}{k}(h:ih fr (.asg t a) c.σ k){v}(d:c.VR a v):W At.UR A c (assign t env v) k:=G fr (.asg t a) k c h A hr env b v d
theorem Good.asgs (G:Good S m ih)(hr:Ay A m)(b:AR c.γ fr env){t}{a}{k}(h:ih fr (.asgs t a) c.σ k){v}(d:c.VRs a v):W At.UR A c (assignInOrder ((assignEach t env).map (·.2)) v) k:=G fr (.asgs t a) k c h A hr env b v d
def Good.part (G:Good S m ih)(hr:Ay A m)(a:AR c.γ fr env){x}{k}(h:WC ih fr x c.σ k):WV A c (evalPart x env) k:=by
 cases x with
 |none=>show λE Q q=>B9 (q _ c _ h (.refl c) rfl)
 |some e=>show G.ev hr a h
theorem Good.two (G:Good S m ih)(hr:Ay A m)(g:AR c.γ fr env){l r:Expr}{k:AV->AV->AC->Prop}(h:O7 ih fr l r c.σ k){E:F3}{Q:Value->Value->Shared->Prop}
 (q:∀a b (c':At S) d f,k a b c'.σ->c.le c'->c'.VR a d->c'.VR b f->AR c'.γ fr env->Q d f c'.s):wpAny S.mdl A (eval l env) (λd s=>wpAny S.mdl A (eval r env) (λf s=>Q d f s) E s) E c.s:=
 G.ev hr g h E _ λa c1 d h1 l1 i=>G.ev hr (g.at l1) h1 E _ λb j f n l2 o=>q a b j d f n (l1.trans l2) (l2.vr i) o ((g.at l1).at l2)
theorem W.more {ρ α:Type}{rel:At S->ρ->α->Prop}{k:ρ->AC->Prop}{c':At S}{m:Sem α}(l:c.le c')(h:W rel A c' m k){E}{Q:α->Shared->Prop}(q:∀r (c':At S) x,k r c'.σ->c.le c'->rel c' r x->Q x c'.s):wpAny S.mdl A m Q E c'.s:=
 h E Q λr c'' x hk a b=>q r c'' x hk (l.trans a) b
theorem rQ (e:(Option.rec (Br (Es a) λi=>some (.r i)) (λt=>some (.d t)) (Ff a):Option RD)=some x)(r:c.VR a v):Qi c.γ c.h x v:=
 JX e (λZ e=>AI e λi e1 b=>by ext b;show Nb (P:=Qi c.γ c.h (.r i)) e1 r λad h=>⟨ad,rfl,h⟩) λt d e=>by ext e;show A8 d r
def rR:∀ {r:List RD} {vs:List Value},rP l=some r->c.VRs l vs->Er c.γ c.h r vs:=by
 induction l with
 |nil=>intro r vs e q;ext e;show q
 |cons a l ih=>
  rintro r vs e ⟨v,b,rfl,q,qs⟩
  show AI e λx e1 e=>AI e λy d e=>by ext e;show⟨v,b,rfl,rQ e1 q,ih d qs⟩
def Er.length:∀ {vs:List Value},Er γ h l vs->l.length=vs.length:=by
 induction l with
 |nil=>intro vs r;ext r;rfl
 |cons p d ih=>rintro vs ⟨_,a,rfl,_,r⟩;show congrArg (· +1) (ih r)
def kA {l:List AV}{vs:List Value}{k:DK}{E:F3}{Q:F3}(rs:c.VRs l vs)(h:w9 l λa=>k a c.σ)(q:∀a (c':At S) v,k a c'.σ->c.le c'->c'.VR a v->Q v c'.s):
 wpAny S.mdl A (newObj (.type "tuple") (.seq vs.toArray)) Q E c.s:=by
 obtain⟨hl,h⟩:=BF h;have f:(c.push {cls:=.type "tuple",data:=.seq vs.toArray} c.s.toks).h.IsTuple c.h.objs.size vs.toArray:=⟨_,J6 _ rfl,rfl,0,rfl⟩
 have l:=c.le_push {cls:=.type "tuple",data:=.seq vs.toArray} c.s.toks;have main:∀a,k a c.σ->(c.push {cls:=.type "tuple",data:=.seq vs.toArray} c.s.toks).VR a (.ref c.h.objs.size)->wpAny S.mdl A (newObj (.type "tuple") (.seq vs.toArray)) Q E c.s:=λa hk r=>
  jM (q a (c.push _ _) _ hk l r) (by change vs.toArray.size<=sizeLine;rw[List.size_toArray,<-rs.length,KY];lia)
 show AE h (λd b h=>main _ h ⟨_,_,rfl,f,(Ea b rs).mono l.tk⟩) λh=>AA h λd b h=>main _ h ⟨_,_,rfl,f,Er.mono l.pre l.tk (rR b rs)⟩
def cO (H:BX K S T)(G:Good S m ih)(hr:Ay A m)(a:AR c.γ fr env){o}{k}(h:oB T ih fr o c.σ k):WV A c (eval o env) k:=by
 cases o with
 |Name x p=>show Qq (cl:=true) H a h
 |_=>show G.ev hr a h
def Xw {x}{a}{pos}{k}(h:cM x λa=>k a c.σ):WV A c (eval (.Constant x a pos) env) k:=by
 intro E Q q;cases x with
 |int i=>show wpAny_Constant_int (q _ (c.tok _) _ h (c.le_tok _) ⟨_,rfl⟩)
 |str z=>show Constant_str (q _ (c.tok _) _ h (c.le_tok _) ⟨_,rfl⟩)
 |bool b=>show Constant_bool (q _ c _ h (.refl c) rfl)
 |none=>show Constant_none (q _ c _ h (.refl c) rfl)
 |_=>show h.elim
def kB (G:Good S m ih)(hr:Ay A m)(f:A.units+11<cLine)(g:AR c.γ fr env){l:Expr}{d:List CmpOp}{rs:List Expr}{pos:Pos}{k:DK}(h:xA ih fr l d rs c.σ k):WV A c (eval (.Compare l d rs pos) env) k:=by
 cases d with
 |nil=>show h.elim
 |cons op d=>cases rs with
  |nil=>show h.elim
  |cons r rs=>
   show AG h λhn hb E Q q=>?_;obtain⟨hn,h3⟩:=DQ.mp hn;have h1:=aL hn;have i:=aR hn;cases NU.mp h1;cases NU.mp i;show wpAny_Compare1 (G.two hr g hb λa b c' o p h l j n Z=>(V3 f j n h).more l q) (GB h3 _)
def cP (G:Good S m ih)(hr:Ay A m)(g:AR c.γ fr env){op}{vs}{pos}{k}(h:oC ih fr op vs pos c.σ k):WV A c (eval (.BoolOp op vs pos) env) k:=by
 cases vs with
 |nil=>show h.elim
 |cons x f=>cases f with
  |nil=>show λE Q q=>BoolOp_one (G.ev hr g h E Q q)
  |cons y l=>
   have main:∀ {E:F3} {Q:Value->Bool->Shared->Prop},(∀a (c':At S) v b,WD op b (k a c'.σ) (ih fr (.e (.BoolOp op (y::l) pos)) c'.σ k)->c.le c'->c'.VR a v->Q v b c'.s)->wpAny S.mdl A (eval x env) (λv s=>wpAny S.mdl A (truthy v) (λb s=>Q v b s) E s) E c.s:=
    λ{E Q} q=>G.ev hr g h E _ λa c1 v h1 l1 i=>HL (k:=λb σ=>fork b λb=>WD op b (k a σ) (ih fr (.e (.BoolOp op (y::l) pos)) σ k)) i h1 E _ λb j o n l2 e=>e▸q a j v b (EQ n) (l1.trans l2) (l2.vr i)
   intro E Q q;cases op with
   |And=>
    show BoolOp_and (main λa c' v b h d r=>?_);cases b with
    |true=>show(G.ev hr (g.at d) h).more d q
    |false=>show q a c' v h d r
   |Or=>
    show BoolOp_or (main λa c' v b h d r=>?_);cases b with
    |true=>show q a c' v h d r
    |false=>show(G.ev hr (g.at d) h).more d q
def Xx (G:Good S m ih)(hr:Ay A m)(b:AR c.γ fr env){o i}{x}{pos}{k}(e:O5 i=some x)(h:cN ih fr o x c.σ k):WV A c (eval (.Subscript o i pos) env) k:=by
 obtain⟨p,rfl⟩:=O6 e;intro E Q q;show Subscript_ (G.ev hr b h E _ λa c1 s h1 l1 d=>wpAny_Slice (G.part hr (b.at l1) h1 E _ λl t w f l2 g=>G.part hr ((b.at l1).at l2) f E _ λu y z h3 l3 j=>B9 ?_));show Xv ((l2.trans l3).vr d) (l3.vr g) j h3 λav c' v hk n r=>q av c' v hk (((l1.trans l2).trans l3).trans n) r
theorem kC (H:BX K S T)(G:Good S m ih)(hr:Ay A m)(d:AR c.γ fr env){o i}{pos}{k}(h:xB T ih fr o i c.σ k):WV A c (eval (.Subscript o i pos) env) k:=
 λE Q q=>Subscript_ (cO H G hr d h E _ λa c1 l h1 l1 f=>G.ev hr (d.at l1) h1 E _ λb n p g l2 j=>(jy (l2.vr f) j g).more (l1.trans l2) q)
def cQ (H:BX K S T)(G:Good S m ih)(hr:Ay A m)(f:A.units+11<cLine)(d:AR c.γ fr env){x:Expr}{k:DK}(h:oF T ih fr x c.σ k):WV A c (eval x env) k:=by
 cases x with
 |Constant=>show Xw h
 |Name=>show Qq (cl:=false) H d h
 |BinOp=>show λE Q q=>wpAny_BinOp (G.two hr d h λa b c' t u h l g i Z=>(jr g i h).more l q)
 |UnaryOp=>show λE Q q=>UnaryOp_ (G.ev hr d h E _ λa c' v h l r=>(rA r h).more l q)
 |Compare=>show kB G hr f d h
 |IfExp=>
  show λE Q q=>IfExp_ (G.tr hr d h E _ λb c' w h l e=>?_);ext e;have h:=EQ h;cases b with
  |true=>show(G.ev hr (d.at l) h).more l q
  |false=>show(G.ev hr (d.at l) h).more l q
 |BoolOp=>show cP G hr d h
 |Tuple=>show AG h λhn h E Q q=>Tuple_ (G.evs hr d h E _ λa c' v h l r=>kA r h λa c'' v hk j r=>q a c'' v hk (l.trans j) r)
 |Subscript=>show AE h (λx e h=>Xx G hr d e h) λh=>kC H G hr d h
 |Attribute o n p=>
  show AG h λho h E Q q=>?_;have main:wpAny S.mdl A (eval o env) (λv s=>wpAny S.mdl A (getAttr v n true) Q E s) E c.s:=G.ev hr d h E _ λa c' v h l r=>(be (x:=true) H r h).more l q;cases o with
  |Name=>show Attribute_any_ main
  |Attribute=>show Attribute_any_ main
  |Subscript=>show Attribute_any_ main
  |_=>ext ho
 |_=>show h.elim
end
section
variable (T:Hj)(ih:Ih)
def T4 (fr:Fr)(x:Expr)(σ:AC)(k:Bool->AC->Prop):=ih fr (.e x) σ λa σ=>Gy a λb=>k b σ
def xC (fr:Fr)(op:BoolOp)(vs:List Expr)(pos:Pos)(σ:AC)(k:Bool->AC->Prop):Prop:=match vs with
 |[]=>match op with|.And=>k true σ|.Or=>k false σ
 |x::a=>ih fr (.t x) σ λc σ=>fork c λc=>WD op c (k c σ) (ih fr (.t (.BoolOp op a pos)) σ k)
def rT (fr:Fr)(l r r':Expr)(op f:CmpOp)(σ:AC)(k:Bool->AC->Prop):Prop:=O7 ih fr l r σ λa b σ=>Xo op a b σ λc σ=>Gy c λd=>fork d λt=>
 Bool.rec (k false σ) (ih fr (.e r') σ λe σ=>Xo f b e σ λc σ=>Gy c λd=>k d σ) t
def xD (fr:Fr)(l:Expr)(f:List CmpOp)(rs:List Expr)(σ:AC)(k:Bool->AC->Prop):Prop:=match f with|[]=>False|op::f=>(match rs with|[]=>False|r::rs=>(match f with|[]=>As (rs.isEmpty&&FW r) (O7 ih fr l r σ λa b σ=>Xo op a b σ λc σ=>Gy c λd=>k d σ)|g::f=>(match rs with|[]=>False|r'::rs=>As ((f.isEmpty&&rs.isEmpty)&&(FW r&&FW r')) (rT ih fr l r r' op g σ k))))
def stepT (fr:Fr)(x:Expr)(σ:AC)(k:Bool->AC->Prop):Prop:=match x with
 |.UnaryOp op y _=>(match op with|.Not=>ih fr (.t y) σ λc σ=>k (!c) σ|_=>False)
 |.BoolOp op vs pos=>xC ih fr op vs pos σ k
 |.IfExp t a b _=>ih fr (.t t) σ λc σ=>fork c λc=>Bool.rec (ih fr (.t b) σ k) (ih fr (.t a) σ k) c
 |.Compare l d rs _=>xD ih fr l d rs σ k
 |.Name y p=>T4 ih fr (.Name y p) σ k
 |.Attribute o n p=>T4 ih fr (.Attribute o n p) σ k
 |.Subscript o i p=>T4 ih fr (.Subscript o i p) σ k
 |.Call f as g p=>T4 ih fr (.Call f as g p) σ k
 |.Constant c a p=>T4 ih fr (.Constant c a p) σ k
 |_=>False
def cR (fr:Fr)(xs:List Expr)(σ:AC)(k:List AV->AC->Prop):Prop:=match xs with|[]=>k [] σ|x::b=>As (Cq [x]) (ih fr (.e x) σ λa σ=>ih fr (.es b) σ λas σ=>k (a::as) σ)
def Kn (a:AV)(k:List AV->Prop):Prop:=nh a λa=>match a with|.d t=>cE t λl=>k (l.map .d)|.mt l=>k (l.map zG)|_=>False
def WE (fr:Fr)(t:Expr)(a:AV)(σ:AC)(k:Unit->AC->Prop):Prop:=match t with|.Name x _=>IN fr x a σ (k ())|.Attribute o n _=>ih fr (.e o) σ λb σ=>Qx T b n a σ (k ())|.Subscript o i _=>O7 ih fr o i σ λb c σ=>Qy b c a σ (k ())|.Tuple d _ _=>Kn a λxs=>As (Cq d&&Nat.beq d.length xs.length) (ih fr (.asgs d xs) σ k)|_=>False
def RA (fr:Fr)(ts:List Expr)(as:List AV)(σ:AC)(k:Unit->AC->Prop):Prop:=match ts with|[]=>Bool.rec False (k () σ) as.isEmpty|t::ts=>(match as with|[]=>False|a::as=>As (Cq [t]) (ih fr (.asg t a) σ λZ σ=>ih fr (.asgs ts as) σ k))
def T5 (rec:AC->Prop)(k:FV->AC->Prop)(fl:FV)(σ:AC):Prop:=match fl with|.next=>rec σ|.cont=>rec σ|.brk=>k .next σ|.ret a=>k (.ret a) σ
def T6 (rec:AC->Prop)(fr:Fr)(a:Expr)(body orelse:List Stmt)(σ:AC)(k:FV->AC->Prop):Prop:=
 ih fr (.t a) σ λc σ=>fork c λb=>Bool.rec (ih fr (.ss orelse) σ k) (ih fr (.ss body) σ (T5 rec k)) b
def T8 (rec:AC->Prop)(fr:Fr)(target:Expr)(it:Nat)(body orelse:List Stmt)(σ:AC)(k:FV->AC->Prop):Prop:=
 cG target it σ λr σ=>Option.rec (ih fr (.ss orelse) σ k) (λav=>ih fr (.asg target av) σ λZ σ=>ih fr (.ss body) σ (T5 rec k)) r
end
section
variable {T:Hj}{ih:Ih}{K:Frag}{S:St}{m:Nat}{A:Around}{fr:Fr}{env:Env}{c:At S}
theorem W.then (h:W rel A c e k)(q:∀r (c':At S) x,k r c'.σ->c.le c'->rel c' r x->Q x c'.s):wpAny S.mdl A e Q E c.s:=h E Q q
theorem kD (G:Good S m ih)(hr:Ay A m)(a:AR c.γ fr env){x}{k}(h:T4 ih fr x c.σ k){E}{Q}(q:∀b (c':At S),k b c'.σ->c.le c'->Q b c'.s):
 wpAny S.mdl A (eval x env) (λv s=>wpAny S.mdl A (truthy v) Q E s) E c.s:=
 G.ev hr a h E _ λZ Z Z h1 l1 d=>HL d h1 E _ λb f i g l2 e=>e▸q b f g (l1.trans l2)
theorem O8 {op:CmpOp}{a b:AV}{f g:Value}{k:Bool->AC->Prop}(i:A.units+11<cLine)(j:c.VR a f)(l:c.VR b g)(h:Xo op a b c.σ λx σ=>Gy x λd=>k d σ){E:F3}{Q:Bool->Shared->Prop}(q:∀b (c':At S),k b c'.σ->c.le c'->Q b c'.s):
 wpAny S.mdl A (compareOp op f g) (λv s=>wpAny S.mdl A (truthy v) Q E s) E c.s:=
 V3 i j l h E _ λZ Z Z h1 l1 m=>HL m h1 E _ λb n p o l2 e=>e▸q b n o (l1.trans l2)
def kE (G:Good S m ih)(hr:Ay A m)(n:A.units+11<cLine)(i:AR c.γ fr env){l:Expr}{f:List CmpOp}{rs:List Expr}{pos:Pos}{k:Bool->AC->Prop}(h:xD ih fr l f rs c.σ k):WB A c (isTrue (.Compare l f rs pos) env (eval (.Compare l f rs pos) env)) k:=by
 cases f with
 |nil=>show h.elim
 |cons op f=>cases rs with
  |nil=>show h.elim
  |cons r rs=>cases f with
   |nil=>
    show AG h λhn hb E Q q=>?_;have h1:=aL hn;have g:=aR hn;cases NU.mp h1;show wpAny_isTrue_Compare1 (G.two hr i hb λa b c' u v h l o j Z=>O8 n o j h λb s hk l2=>q b s b hk (l.trans l2) rfl) (GB g _)
   |cons w f=>cases rs with
    |nil=>show h.elim
    |cons r' rs=>
     show AG h λhn hb E Q q=>?_;have h0:=aL hn;have g:=aR hn;have h1:=aL h0;have p:=aR h0;cases NU.mp h1;cases NU.mp p;show isTrue_chain (rs:=[]) (G.ev hr i hb E _ λa c1 u h1 l1 o=>test_link (G.ev hr (i.at l1) h1 E _ λb s v g l2 j=>O8 n (l2.vr o) j g λd x h3 l3=>?_)) (Q9 (DQ.mp g).2);have h3:=EQ h3;have l:=(l1.trans l2).trans l3;cases d with
     |false=>rw[if_neg ∅];show q false x _ h3 l rfl
     |true=>show(if_pos rfl)▸?_;show test_last (G.ev hr (i.at l) h3 E _ λe C ve y t z=>O8 n (t.vr (l3.vr j)) z y λb B hk l5=>q b B b hk ((l.trans t).trans l5) rfl)
def cS (G:Good S m ih)(hr:Ay A m)(i:A.units+11<cLine)(a:AR c.γ fr env){x}{k}(h:stepT ih fr x c.σ k):WB A c (isTrue x env (eval x env)) k:=by
 have val:∀ {x},T4 ih fr x c.σ k->(∀E (Q:Bool->Shared->Prop),wpAny S.mdl A (eval x env) (λv s=>wpAny S.mdl A (truthy v) Q E s) E c.s->wpAny S.mdl A (isTrue x env (eval x env)) Q E c.s)->WB A c (isTrue x env (eval x env)) k:=
  λh g E Q q=>g E Q (kD G hr a h λb c' hk l=>q b c' b hk l rfl)
 cases x with
 |UnaryOp op y p=>cases op with|Not=>show λE Q q=>isTrue_not (G.tr hr a h E _ λb c' d h l e=>by ext e;show q _ c' _ h l rfl)|_=>show h.elim
 |BoolOp op vs pos=>cases vs with
  |nil=>cases op with|And=>show λE Q q=>isTrue_and_nil (q _ c _ h (.refl c) rfl)|Or=>show λE Q q=>isTrue_or_nil (q _ c _ h (.refl c) rfl)
  |cons x f=>cases op with
   |And=>
    show λE Q q=>isTrue_and (G.tr hr a h E _ λb c' d h l e=>?_);ext e;have h:=EQ h;cases b with
    |true=>rw[if_pos rfl];show(G.tr hr (a.at l) h).more l q
    |false=>rw[if_neg ∅];show q _ c' _ h l rfl
   |Or=>
    show λE Q q=>isTrue_or (G.tr hr a h E _ λb c' d h l e=>?_);ext e;have h:=EQ h;cases b with
    |true=>rw[if_pos rfl];show q _ c' _ h l rfl
    |false=>rw[if_neg ∅];show(G.tr hr (a.at l) h).more l q
 |IfExp=>
  show λE Q q=>isTrue_IfExp (G.tr hr a h E _ λb c' d h l e=>?_);ext e;have h:=EQ h;cases b with
  |true=>rw[if_pos rfl];show(G.tr hr (a.at l) h).more l q
  |false=>rw[if_neg ∅];show(G.tr hr (a.at l) h).more l q
 |Compare=>show kE G hr i a h
 |Name=>show val h λE Q h=>isTrue_plain h
 |Attribute=>show val h λE Q h=>isTrue_plain h
 |Subscript=>show val h λE Q h=>isTrue_plain h
 |Call=>show val h λE Q h=>isTrue_plain h
 |Constant=>show val h λE Q h=>isTrue_plain h
 |_=>show h.elim
def Xy (G:Good S m ih)(hr:Ay A m)(b:AR c.γ fr env){xs}{pos}{k}(h:cR ih fr xs c.σ k):W At.VRs A c (spliced (backTo pos (starEach xs env))) k:=by
 cases xs with
 |nil=>show λE Q q=>args_nil (q _ c _ h (.refl c) rfl)
 |cons x d=>
  show AG h λhn h E Q q=>args_cons (G.ev hr b h E _ λa c1 j h1 l1 f=>G.evs hr (b.at l1) h1 E _ λas g vs i l2 rs=>q _ g _ i (l1.trans l2) ⟨_,_,rfl,l2.vr f,rs⟩) (by cases x<;>first|rfl|ext hn)
def T9:Cq j->(assignEach j env).length=j.length/\(assignEach j env).findIdx? (·.1)=none:=by
 induction j with
 |nil=>show λZ=>⟨rfl,rfl⟩
 |cons t ts ih=>
  intro h;have h1:=aL h;have c:=aR h;obtain⟨a,b⟩:=ih c;have e:assignEach (t::ts) env=(false,assign t env)::assignEach ts env:=by cases t<;>first|rfl|ext h1
  rw[e,Zh,a,List.findIdx?_cons,b];show⟨rfl,rfl⟩
def kF:∀ {vs:List Value},Er c.γ c.h l vs->c.VRs (l.map zG) vs:=by
 induction l with
 |nil=>show λr=>r
 |cons x l ih=>
  rintro vs ⟨v,a,e,r,rs⟩
  show⟨v,a,e,?_,ih rs⟩;cases x with
  |r i=>show r
  |d t=>show r
@[elab_as_elim] theorem Iw {a:AV} {v:Value} {k:List AV->Prop} {P:Value->Prop} (h:Kn a k) (r:c.VR a v) (q:∀l ad its,c.h.IsTuple ad its->c.VRs l its.toList->k l->P (.ref ad)):P v:=
 Tu h r λa r h=>by
  cases a with
  |d t=>show Lw h r λl ad its b rs h=>q _ ad its b (Qj rs) h
  |mt l=>show Bj r λad its f b rs=>?_;subst f;show q _ ad its b (kF rs) h
  |ref=>show h.elim
def UA (H:BX K S T)(G:Good S m ih)(hr:Ay A m)(g:AR c.γ fr env){t:Expr}{a:AV}{v:Value}{k:Unit->AC->Prop}(j:c.VR a v)(h:WE T ih fr t a c.σ k):W At.UR A c (assign t env v) k:=by
 cases t with
 |Name x p=>show λE Q q=>PyProof.Rows.assign_Name (Fj g j h E _ q)
 |Attribute o D pos=>
  intro E Q q;change wpAny _ _ (do let ov<-holding [v] (eval o env);standAt pos.atName;holding [v,ov] (setAttr ov D v);release [v,ov] []) _ _ _;show An (QK (G.ev hr g h E _ λb c1 F h1 l1 n=>An (Sh (An (QK (Q3 H n (l1.vr j) h1 E _ λu z I hk l2 r=>wpAny_release (q u z _ hk (l1.trans l2) r)))))))
 |Subscript o i pos=>
  intro E Q q;rw[assign_Subscript];show An (QK (G.ev hr g h E _ λb c1 F h1 l1 n=>An (QK (G.ev hr (g.at l1) h1 E _ λd z N J l2 rc=>An (Sh (An (QK (Q4 (l2.vr n) rc ((l1.trans l2).vr j) J E _ λu L I hk l3 r=>wpAny_release (q u L _ hk ((l1.trans l2).trans l3) r)))))))))
 |Tuple f O p=>
  have h:Kn a λxs=>As (Cq f&&Nat.beq f.length xs.length) (ih fr (.asgs f xs) c.σ k):=h;show Iw h j λl ad its M rs h=>AG h λhn h E Q q=>?_;have s:=aL hn;have w:=aR hn;obtain⟨l1,l2⟩:=T9 (env:=env) s;show wpAny_assign_Tuple hr.handled M (by rw[l1,LJ w,rs.length,Ej]) l2 λh' he=>?_;have B:∀b o,c.h.get? b=some o->h'.get? b=some o:=λb o C=>he b o (Nat.ne_of_lt (Oh C)) C;have y:=c.le_grow c.s.toks B;show(G.asgs (c:=c.grow c.s.toks B) hr (g.at y) h (y.vrs rs)).more y q
 |_=>show h.elim
def RB (G:Good S m ih)(hr:Ay A m)(d:AR c.γ fr env){ts}{as}{vs}{k}(f:c.VRs as vs)(h:RA ih fr ts as c.σ k):W At.UR A c (assignInOrder ((assignEach ts env).map (·.2)) vs) k:=by
 cases ts with
 |nil=>cases as with|nil=>ext f;show λE Q q=>B9 (q _ c _ h (.refl c) trivial)|cons=>show h.elim
 |cons t ts=>cases as with
  |nil=>show h.elim
  |cons a as=>
   show Bj f λv b g r rs=>?_;subst g;show AG h λhn h E Q q=>?_;have e:assignInOrder ((assignEach (t::ts) env).map (·.2)) (v::b)=(do holding b (assign t env v);assignInOrder ((assignEach ts env).map (·.2)) b):=by
    cases t<;>first|rfl|ext hn
   show(e)▸?_;show An (QK (G.asg hr d h r E _ λZ c1 Z h1 l1 Z=>(G.asgs hr (d.at l1) h1 (l1.vrs rs)).more l1 q))
end
section
variable {prog:Program}{w:World}{A:Around}{E:F3}{R:Result->Shared->Prop}{s:Shared}
def cT (M:Model)(A:Around)(c:Code)(R:Result->Shared->Prop)(f:Flow)(s:Shared):Prop:=match f with|.next=>codeAny M A c R s|.cont=>codeAny M A c R s|.brk=>R (.ok .next) s|.ret v=>R (.ok (.ret v)) s
def UB
 (h:wpAny (model prog w) A (isTrue j env (eval j env)) (λb c=>
   Bool.rec (wpAny (model prog w) A (execs orelse env) (λf d=>R (.ok f) d) (notedBy (model prog w) A env λe s'=>R (.error e) s') c)
    (wpAny (model prog w) A (execs body env) (cT (model prog w) A (.whileLoop j body orelse env) R) (notedBy (model prog w) A env λe s'=>R (.error e) s') c) b)
   (notedBy (model prog w) A env λe s'=>R (.error e) s') s):codeAny (model prog w) A (.whileLoop j body orelse env) R s:=by
 show codeAny_of_tree ?_;change wpAny _ A ((whileTurn j body orelse env).onRaise λx=>do noteFrame x env;theTreesLotGoes x) _ _ s;show wpAny_noted ?_;simp only[whileTurn];show An (NR h (λb c g=>?_) λZ Z h'=>h');cases b with
 |false=>show An (NR g (λf d a=>B9 a) λZ Z h'=>h')
 |true=>
  show An (NR g (λf d a=>?_) λZ Z h'=>h');cases f with
  |next=>show B9 ⟨rfl,a⟩
  |cont=>show B9 ⟨rfl,a⟩
  |brk=>show B9 a
  |ret v=>show B9 a
theorem Ly
 (h:wpAny (model prog w) A (pyNext it) (λr s₁=>match r with
   |none=>wpAny (model prog w) A (execs orelse env) (λf d=>R (.ok f) d) (notedBy (model prog w) A env λe s'=>R (.error e) s') s₁
   |some v=>wpAny (model prog w) A (letOwnedTupleGo target it v) (λZ a=>wpAny (model prog w) A (assign target env v) (λZ a=>wpAny (model prog w) A (execs body env) (cT (model prog w) A (.forLoop target it body orelse env) R)
     (notedBy (model prog w) A env λe s'=>R (.error e) s') a) (notedBy (model prog w) A env λe s'=>R (.error e) s') a) (notedBy (model prog w) A env λe s'=>R (.error e) s') s₁)
   (notedBy (model prog w) A env λe s'=>R (.error e) s') s):codeAny (model prog w) A (.forLoop target it body orelse env) R s:=by
 show codeAny_of_tree ?_;change wpAny _ _ ((forTurn target it body orelse env).onRaise λx=>do noteFrame x env;theTreesLotGoes x) _ _ s;show wpAny_noted ?_;simp only[forTurn];show An (Sh (An (wpAny_onRaise (NR h (λr s₁ g=>?_) λZ Z h'=>Sh h'))));cases r with
 |none=>show B9 ⟨rfl,codeAny_block g⟩
 |some v=>
  show An (NR g (λZ a c=>An (NR c (λZ a c=>An (NR c (λf d b=>?_) λZ Z h'=>h')) λZ Z h'=>h')) λZ Z h'=>h');cases f with
  |next=>show B9 ⟨rfl,b⟩
  |cont=>show B9 ⟨rfl,b⟩
  |brk=>show B9 b
  |ret v=>show B9 b
end
section
variable {T:Hj}{ih:Ih}{S:St}{m:Nat}{A:Around}{fr:Fr}{c:At S}
def WF {N}{rec}{k}{code}{Q}{b:At S}{fl}{f}(l:b.le c)(rf:c.FR fl f)(h:T5 rec k fl c.σ)(d:rec c.σ->WK (At.leN N) At.FR id A c code k)
 (q:∀r (c':At S) x,k r c'.σ->At.leN N b c'->c'.FR r x->Q (.ok (id x)) c'.s):cT S.mdl A code Q f c.s:=by
  cases fl with
  |next=>ext rf;show d h Q λr c' x hk g i=>q r c' x hk (l.transN g) i
  |cont=>ext rf;show d h Q λr c' x hk g i=>q r c' x hk (l.transN g) i
  |brk=>ext rf;show q .next c .next h (l.toN N) rfl
  |ret a=>obtain⟨v,rfl,r⟩:=rf;show q (.ret a) c (.ret v) h (l.toN N) ⟨v,rfl,r⟩
def Nv (G:Good S m ih)(hr:Ay A m){j}{body orelse}{rec}{k}{N}(a:∀c':At S,rec c'.σ->ER (At.leN N) A fr c' (.wl j body orelse) k)(h:T6 ih rec fr j body orelse c.σ k):ER (At.leN N) A fr c (.wl j body orelse) k:=by
 intro env d Q q;show UB (G.tr hr d h _ _ λb c1 l h1 l1 e=>?_);ext e;have h1:=EQ h1;cases b with
 |true=>show G.st hr (d.at l1) h1 _ _ λfl g f i l2 rf=>WF (l1.trans l2) rf i (λh=>a g h env ((d.at l1).at l2)) q
 |false=>show G.st hr (d.at l1) h1 _ _ λfl g f i l2 rf=>q fl g f i ((l1.trans l2).toN N) rf
def Nx (G:Good S m ih)(hr:Ay A m){target}{it}{body orelse}{rec}{k}{N}(b:∀c':At S,rec c'.σ->ER (At.leN N) A fr c' (.fl target it body orelse) k)(h:T8 ih rec fr target it body orelse c.σ k):ER (At.leN N) A fr c (.fl target it body orelse) k:=by
 intro env g a j Q q;show Ly (Q8 hr.handled j h _ (λZ v d=>wpAny S.mdl A (assign target env v) _ _ d) _ (λc1 h1 l1=>?_) λav c1 v h1 l1 o=>?_)
 · show G.st hr (g.at l1) h1 _ _ λfl n f i l2 rf=>q fl n f i ((l1.trans l2).toN N) rf
 · show G.asg hr (g.at l1) h1 o _ _ λZ n Z i l2 Z=>G.st hr ((g.at l1).at l2) i _ _ λfl p f h3 l3 rf=>let l:=(l1.trans l2).trans l3;WF l rf h3 (λh=>b p h env (g.at l) a (l.pre.get j)) q
end
def Ct (e:Expr):=!(Nat.beq e.ctorIdx (Expr.ListComp default default default default).ctorIdx||(Nat.beq e.ctorIdx (Expr.SetComp default default default default).ctorIdx||Nat.beq e.ctorIdx (Expr.DictComp default default default default default).ctorIdx))
def Ht (h:Ct e) t l env:swapsWith e t l env=pure false:=by
 cases e<;>first|rfl|ext h
def UC e o n p l env:swapsWith e (some (.Attribute o n p)) l env=pure false:=by
 cases e<;>rfl
def Xz e o i p l env:swapsWith e (some (.Subscript o i p)) l env=pure false:=by
 cases e<;>rfl
def Jb e ts (k:_) p l env:swapsWithSole [.Tuple ts k p] e l env=pure false:=by
 cases e<;>rfl
def cU (e:Expr):Bool:=match e with|.Starred .. =>true|_=>false
def nameAt (scope:Scope)(line:Nat)(e:Expr):Option Str:=match e with|.Name id pos=>if scope.names.lookup id==some .local&&pos.line==line then some id else none|_=>none
def GC (scope:Scope)(ts:List Expr):=ts.filterMap (nameAt scope ((ts.head?.map (·.pos.line)).getD 0))
def oG (scope:Scope)(ts vs:List Expr):Option (Option (List Str)):=
 if !(ts.length==2||ts.length==3)||vs.length !=ts.length then some none
 else if vs.any cU then some none
 else if (GC scope ts).length !=ts.length||(GC scope ts).eraseDups.length !=(GC scope ts).length then some none
 else if vs.all (foldedForSure 8) then some none
 else if vs.all (constantsAlone 8) then none
 else some (some (GC scope ts))
def G0 {α β:Type}{c} [Decidable c] {x x':Option α}{y a:β}{r:α}{P:β->Prop}(e:(if c then x else x')=some r)(h:x=some r->P y)(h':x'=some r->P a):P (if c then y else a):=by
 by_cases q:c
 · rw[if_pos q] at e ⊢;show h e
 · rw[if_neg q] at e ⊢;show h' e
def RC {env}(hk:env.scope.kind=.function){ts vs}{k b:_}{p j}{r}(h:oG env.scope ts vs=some r):swappedStores [.Tuple ts k p] (.Tuple vs b j) env=pure r:=by
 have hb:env.blockKind=.function:=by unfold Env.blockKind;rw[hk];rfl
 have a:(env.blockKind !=.function)=false:=by rw[hb];rfl
 change (if (!(ts.length==2||ts.length==3)||vs.length !=ts.length||env.blockKind !=.function)=true then (pure none:Sem (Option (List Str))) else if vs.any cU=true then pure none else
  if ((GC env.scope ts).length !=ts.length||(GC env.scope ts).eraseDups.length !=(GC env.scope ts).length)=true then pure none
  else if vs.all (foldedForSure 8)=true then pure none else _)=_
 rw[a,Bool.or_false];have z:(some none:Option (Option (List Str)))=some r->(pure none:Sem (Option (List Str)))=pure r:=λq=>by ext q;rfl
 show G0 (P:=λy=>y=pure r) h z λh=>G0 (P:=λy=>y=pure r) h z λh=>G0 (P:=λy=>y=pure r) h z λh=>G0 (P:=λy=>y=pure r) h z λh=>G0 (P:=λy=>y=pure r) h nofun λh=>by ext h;rfl
def RE (h:V9 e=false) ts (k:_) p env:swappedStores [.Tuple ts k p] e env=pure none:=by
 cases e<;>first|rfl|ext h
def Ix (fr:Fr)(ns:List Str)(as:List AV)(σ:AC)(k:AC->Prop):Prop:=match ns with|[]=>Bool.rec False (k σ) as.isEmpty|n::ns=>(match as with|[]=>False|a::as=>IN fr n a σ λσ=>Ix fr ns as σ k)
section
variable {S:St}{A:Around}{fr:Fr}{env:Env}
def Lz {E:F3}{g:List Str->List Value->Sem Unit}(g0:∀ {c:At S} {Q:Unit->Shared->Prop},Q () c.s->wpAny S.mdl A (g [] []) Q E c.s)
 (f:∀ {c:At S} {n:Str} {ns:List Str} {v:Value} {vs:List Value} {Q:Unit->Shared->Prop},wpAny S.mdl A (storeName env n v) (λZ s=>wpAny S.mdl A (g ns vs) Q E s) E c.s->wpAny S.mdl A (g (n::ns) (v::vs)) Q E c.s):
 ∀ {ns:List Str} {as:List AV} {vs:List Value} {c:At S} {k:AC->Prop},AR c.γ fr env->c.VRs as vs->Ix fr ns as c.σ k->∀ {Q:Unit->Shared->Prop},(∀c':At S,k c'.σ->c.le c'->Q () c'.s)->wpAny S.mdl A (g ns vs) Q E c.s:=by
 intro ns
 induction ns with
 |nil=>
  intro as vs c k b r h Q q;cases as with
  |nil=>ext r;show g0 (q c h (.refl c))
  |cons=>show h.elim
 |cons n ns d=>
  intro as vs c k b r h Q q;cases as with
  |nil=>show h.elim
  |cons a as=>
   obtain⟨v,l,rfl,r,rs⟩:=r;have h:IN fr n a c.σ λσ=>Ix fr ns as σ k:=h;show f (Fj b r h E _ λZ c1 Z h1 l1 Z=>d (b.at l1) (l1.vrs rs) h1 λi j l2=>q i j (l1.trans l2))
def AY.reverse:∀ {vs:List Value},AY γ h xs vs->AY γ h xs.reverse vs.reverse:=by
 induction xs with
 |nil=>intro vs r;ext r;show rfl
 |cons x xs ih=>
  rintro vs ⟨v,a,rfl,r,rs⟩
  rw[List.reverse_cons,List.reverse_cons];show(ih rs).append ⟨v,[],rfl,r,rfl⟩
end
def oH (t:Expr):Option (Expr×Expr):=match t with|.Subscript o i _=>some (o,i)|_=>none
def UD (e:oH t=some x):∃p,t=.Subscript x.1 x.2 p:=by
 show Ap (p:=λx=>∃p,t=.Subscript x.1 x.2 p) ?_ e;cases t with
 |Subscript o i p=>show⟨p,rfl⟩
 |_=>trivial
def O9 (t:Expr):Option (List Expr):=match t with|.Tuple l _ _=>some l|_=>none
def KL (e:O9 t=some x):∃k p,t=.Tuple x k p:=by
 show Ap (p:=λx=>∃k p,t=.Tuple x k p) ?_ e;cases t with
 |Tuple o i p=>show⟨i,p,rfl⟩
 |_=>trivial
section
variable (T:Hj)(ih:Ih)
def oI (fr:Fr)(names:List Str)(v:Expr)(σ:AC)(k:FV->AC->Prop):Prop:=ih fr (.e v) σ λa σ=>Kn a λl=>As (Nat.beq names.length l.length) (Ix fr names.reverse l.reverse σ (k .next))
def cV (fr:Fr)(t v:Expr)(σ:AC)(k:FV->AC->Prop):=ih fr (.e v) σ λa σ=>ih fr (.asg t a) σ λZ σ=>k .next σ
def tupS (fr:Fr)(ts:List Expr)(t v:Expr)(σ:AC)(k:FV->AC->Prop):Prop:=
 AW (O9 v) (λvs=>AD (oG fr.scope ts vs) λr=>AW r (λnames=>oI ih fr names v σ k) (cV ih fr t v σ k)) (As (!V9 v) (cV ih fr t v σ k))
def xE (fr:Fr)(t v:Expr)(σ:AC)(k:FV->AC->Prop):Prop:=match t with|.Name y _=>As (Ct v) (ih fr (.e v) σ λa σ=>IN fr y a σ (k .next))|.Attribute .. =>cV ih fr t v σ k|.Subscript .. =>cV ih fr t v σ k|.Tuple ts _ _=>tupS ih fr ts t v σ k|_=>False
def cW (ih:Ih)(fr:Fr)(o:List Stmt)(k:FV->AC->Prop)(fl:FV)(σ:AC):Prop:=match fl with|.next=>ih fr (.ss o) σ k|fl=>k fl σ
def one {α:Type}(l:List α):Option α:=match l with|[]=>none|x::l=>Bool.rec none (some x) l.isEmpty
def cX (fr:Fr)(x:Stmt)(σ:AC)(k:FV->AC->Prop):Prop:=match x with|.Expr e _=>As (Ct e) (ih fr (.e e) σ λZ σ=>k .next σ)|.Return e _=>WC ih fr e σ λa σ=>k (.ret a) σ|.If t b o _=>ih fr (.t t) σ λc σ=>fork c λc=>Bool.rec (ih fr (.ss o) σ k) (ih fr (.ss b) σ k) c|.While t b o _=>ih fr (.wl t b o) σ k|.For target iter body orelse _=>As (FW iter) (ih fr (.e iter) σ λa σ=>V8 a σ λi σ=>ih fr (.fl target i body orelse) σ k)|.Assign ts v _=>AD (one ts) λt=>xE ih fr t v σ k|.Continue _=>k .cont σ|.Break _=>k .brk σ|.Pass _=>k .next σ|.Delete ts _=>AD (Br (one ts) oH) λx=>O7 ih fr x.1 x.2 σ λa b σ=>Qz a b σ (k .next)|.Try b d o f _=>As (!d.isEmpty&&f.isEmpty) (ih fr (.ss b) σ (cW ih fr o k))|_=>False
def cY (fr:Fr)(l:List Stmt)(σ:AC)(k:FV->AC->Prop):Prop:=match l with|[]=>k .next σ|x::a=>ih fr (.s1 x) σ (cW ih fr a k)
end
section
variable {T:Hj}{ih:Ih}{K:Frag}{S:St}{m:Nat}{A:Around}{fr:Fr}{env:Env}{c:At S}
def FX (h:FW e) env x:foldedSetIterable e env x=pure x:=by
 cases e<;>first|rfl|ext h
def AR.kindEq (x:AR γ fr env):env.scope.kind=.function/\env.scope=fr.scope:=by
 obtain⟨k,L,F,cl,h1,a,h3,rfl⟩:=x;show⟨k,rfl⟩
def L3 (e:one l=some x):l=[x]:=by
 cases l with
 |nil=>ext e
 |cons y l=>obtain⟨h,e⟩:=Eb e;cases NU.mp h;ext e;rfl
theorem Ko (G:Good S m ih)(hr:Ay A m)(b:AR c.γ fr env){t v:Expr}{k:FV->AC->Prop}(h:cV ih fr t v c.σ k){E:F3}{Q:Flow->Shared->Prop}(q:∀r (c':At S) x,k r c'.σ->c.le c'->c'.FR r x->Q x c'.s):
 wpAny S.mdl A (eval v env) (λx s=>wpAny S.mdl A (assign t env x) (λZ s=>Q .next s) E s) E c.s:=
 G.ev hr b h E _ λa c1 i h1 l1 d=>G.asg hr (b.at l1) h1 d E _ λZ f Z g l2 Z=>q .next f .next g (l1.trans l2) rfl
def kG (G:Good S m ih)(hr:Ay A m)(d:AR c.γ fr env){t v:Expr}{p:Pos}{k:FV->AC->Prop}(h:xE ih fr t v c.σ k):W At.FR A c (exec (.Assign [t] v p) env) k:=by
 intro E Q q;cases t with
 |Name y p=>show AG h λhn h=>wpAny_Assign_Name (G.ev hr d h E _ λa c1 D h1 l1 j=>Fj (d.at l1) j h1 E _ λZ u Z w l2 Z=>q .next u .next w (l1.trans l2) rfl) (Ht hn _ _ _)
 |Attribute o F p=>
  show(plainObj_exec_Assign_Attribute o F p _ _ (UC ..))▸?_;show An (Sh (An (NR (Ko G hr d h q) (λx s h=>An (NR h (λZ Z h=>B9 h) λZ Z h=>h)) λZ Z h=>h)))
 |Subscript o i p=>
  show(exec_Assign_Subscript o i p _ _ (Xz ..))▸?_;show An (Sh (An (NR (Ko G hr d h q) (λx s h=>An (NR h (λZ Z h=>B9 h) λZ Z h=>h)) λZ Z h=>h)))
 |Tuple ts K p=>
  show AE h (λvs ev h=>AA h λr er h=>?_) λh=>AG h λhn h=>Assign_Tuple (Ko G hr d h q) (Jb ..) (RE (by cases e:V9 v with|false=>rfl|true=>rw[e] at hn;ext hn) ..);show jP (KL ev) λf H I=>?_;subst I;rw[<-d.kindEq.2] at er;cases r with
  |none=>show Assign_Tuple (Ko G hr d h q) (Jb ..) (RC d.kindEq.1 er)
  |some names=>
   have h:oI ih fr names (.Tuple vs f H) c.σ k:=h;show Assign_Tuple_swapped (names:=names) (G.ev hr d h E _ λa c1 D h1 l1 j=>Iw h1 j λl ad its J rs h1=>AG h1 λhn h1=>?_) (Jb ..) (RC d.kindEq.1 er);have z:names.length=its.size:=by rw[LJ hn,rs.length,Ej]
   show(z)▸?_;show wpAny_unpackItems_tuple hr.handled J λh' he=>?_;have f:∀b o,c1.h.get? b=some o->h'.get? b=some o:=λb o C=>he b o (Nat.ne_of_lt (Oh C)) C;have B:=c1.le_grow c1.s.toks f;show Lz (c:=c1.grow c1.s.toks f) (g:=λns vs=>assignInOrder (ns.map λn=>bindName env n) vs) B9 (λ{_ _ _ _ _ _} h=>An (QK (wpAny_bindName h))) ((d.at l1).at B) (AY.reverse (rs.mono (.refl _) B.tk)) h1 λu w l2=>q .next u .next w ((l1.trans B).trans l2) rfl
 |_=>show h.elim
def WG (G:Good S m ih)(hr:Ay A m)(d:AR c.γ fr env){o}{k}{fl}{f}(h:cW ih fr o k fl c.σ)(rf:c.FR fl f){b:At S}(l:b.le c){E}{Q}(q:∀r (c':At S) x,k r c'.σ->b.le c'->c'.FR r x->Q x c'.s):
 (f=.next->wpAny S.mdl A (execs o env) Q E c.s)/\(f≠ .next->Q f c.s):=by
 cases fl with
 |next=>ext rf;show⟨λZ=>(G.st hr d h).more l q,λh=>absurd rfl h⟩
 |brk=>ext rf;show⟨λh=>(nomatch h),λZ=>q .brk c .brk h l rfl⟩
 |cont=>ext rf;show⟨λh=>(nomatch h),λZ=>q .cont c .cont h l rfl⟩
 |ret a=>obtain⟨v,rfl,r⟩:=rf;show⟨λh=>(nomatch h),λZ=>q (.ret a) c (.ret v) h l ⟨v,rfl,r⟩⟩
def RF (G:Good S m ih)(hr:Ay A m)(d:AR c.γ fr env){x}{k}(h:cX ih fr x c.σ k):W At.FR A c (exec x env) k:=by
 intro E Q q;cases x with
 |Expr e p=>
  show AG h λhn h=>wpAny_Expr_any (G.ev hr d h E _ λZ c1 Z h1 l1 Z=>q _ c1 _ h1 l1 rfl) (by unfold interactive;show(d.kindEq.1)▸?_;rfl) (Ht hn _ _ _)
 |Return e p=>cases e with|none=>show wpAny_Return_none (q _ c _ h (.refl c) ⟨_,rfl,rfl⟩)|some e=>show wpAny_Return_some (G.ev hr d h E _ λZ c1 v h1 l1 r=>q _ c1 _ h1 l1 ⟨v,rfl,r⟩)
 |If=>
  show wpAny_If (G.tr hr d h E _ λb c' H h l e=>?_);ext e;have h:=EQ h;cases b with
  |true=>rw[if_pos rfl];show(G.st hr (d.at l) h).more l q
  |false=>rw[if_neg ∅];show(G.st hr (d.at l) h).more l q
 |While t b o p=>show wpAny_While (G fr (.wl t b o) k c h A hr env d _ q)
 |For t i b o p=>show AG h λhn h=>wpAny_For (G.ev hr d h E _ λa c1 u h1 l1 j=>Lx j h1 E _ λi n vi g l2 ⟨ad,e,w⟩=>e▸G fr (.fl t i b o) k n g A hr env ((d.at l1).at l2) ad w _ λr B x hk l3 C=>q r B x hk ((l1.trans l2).trans l3) C) (FX hn _)
 |Assign ts v p=>show AA h λt e h=>L3 e▸kG G hr d h E Q q
 |Continue=>show wpAny_Continue (q _ c _ h (.refl c) rfl)
 |Break=>show wpAny_Break (q _ c _ h (.refl c) rfl)
 |Pass=>show wpAny_Pass (q _ c _ h (.refl c) rfl)
 |Delete ts p=>
  show AA h λx e h=>AI e λt e1 D=>?_;obtain⟨I,rfl⟩:=UD D;show(L3 e1)▸?_;show wpAny_Delete (wpAny_deleteEach_cons (delete_Subscript (G.two hr d h λa b c' u J h l j F Z=>Q5 j F h E _ λZ n Z g l2 Z=>wpAny_deleteEach_nil (q .next n .next g (l.trans l2) rfl))))
 |Try b s o f p=>
  show AG h λhn h=>?_;have h1:=aL hn;have g:=aR hn;cases NU.mp g;cases s with
  |nil=>ext h1
  |cons y s=>
   show wpAny_Try_except (G.st hr d h _ _ λfl c1 f h1 l1 rf=>?_);have z:=WG (E:=E) G hr (d.at l1) h1 rf l1 q;cases f with
   |next=>show z.1 rfl
   |_=>show z.2 nofun
 |_=>show h.elim
def X0 (G:Good S m ih)(hr:Ay A m)(a:AR c.γ fr env){l}{k}(h:cY ih fr l c.σ k):W At.FR A c (execs l env) k:=by
 intro E Q q;cases l with
 |nil=>show wpAny_execs_nil (q _ c _ h (.refl c) rfl)
 |cons x b=>
  show wpAny_execs_cons (G fr (.s1 x) _ c h A hr env a E _ λfl c1 f h1 l1 rf=>?_);have z:=WG (E:=E) G hr (a.at l1) h1 rf l1 q;cases f with
  |next=>show z.1 rfl
  |_=>show z.2 nofun
end
def layA (l:List (Str×NameKind))(σ:AC)(acc:List (Str×Nat))(k:AC->List (Str×Nat)->Prop):Prop:=match l with|[]=>k σ acc|x::r=>Bool.rec (layA r σ acc k) (layA r (σ++[some (.cell none)]) ((x.1,σ.length)::acc) k) (x.2==.cell)
def RG (fd:FuncData)(a:Addr)(lid:Nat)(cells:List (Str×Nat)):Fr:=
 {scope:=fd.scope,lid:=lid,cells:=cells,clo:=fd.closure,qual:=fd.qualname++".<locals>.",func:=some a,code:=fd.code,fid:=lid}
def Jc (fd:FuncData)(a:Addr)(ps:List Str)(as:List AV)(σ:AC)(k:Fr->AC->Prop):Prop:=
 layA fd.scope.names (σ++[some (.ns [])]) [] λb cells=>Ix (RG fd a σ.length cells) ps as b (k (RG fd a σ.length cells))
section
variable {S:St}{A:Around}{E:F3}
def At.newCell (c:At S):=c.alloc {cls:=.type "cell",data:=.cell none} (ao:=.cell none) (.ofCell0 ⟨_,J6 _ rfl,rfl⟩)
def At.newNs (c:At S)(cls:Value):=c.alloc {cls:=cls,data:=.dict #[]} (ao:=.ns []) (.ofNs (kvs:=[]) ⟨rfl,rfl⟩ (Heap.Ns.new c.h cls) λo es a ho hd=>by rw[J6 _ rfl] at ho;ext ho;ext hd;show QJ _)
def WH (f:Str×NameKind->List (Str×Addr)->Sem (ForInStep (List (Str×Addr)))){clo}
 (hf:∀x cells,f x cells=if x.2==.cell then (do let a<-alloc {cls:=.type "cell",data:=.cell none};pure (.yield ((x.1,a)::cells))) else pure (.yield cells)):
   ∀ {names:List (Str×NameKind)} {c:At S} {acc:List (Str×Nat)} {cl:List (Str×Addr)} {k:AC->List (Str×Nat)->Prop},Et c.γ acc cl->layA names c.σ acc k->∀ {Q:List (Str×Addr)->Shared->Prop},
    (∀(c':At S) j u,k c'.σ j->c.le c'->Et c'.γ j u->Q (u++clo) c'.s)->wpAny S.mdl A (forIn names (cl++clo) f) Q E c.s:=by
  intro names
  induction names with
  |nil=>intro c acc cl k hc h Q q;rw[mz];show B9 (q c acc cl h (.refl c) hc)
  |cons x r ih=>
   intro c acc cl k hc h Q q;rw[nA,hf]
   replace h:Bool.rec (layA r c.σ acc k) (layA r (c.σ++[some (.cell none)]) ((x.1,c.σ.length)::acc) k) (x.2==.cell):=h
   cases e:x.2==NameKind.cell with
   |true=>
    rw[e] at h;rw[if_pos rfl];have l:c.le c.newCell:=c.le_alloc ..;show An (An (wpAny_alloc (B9 (ih (c:=c.newCell) (cl:=(x.1,c.h.objs.size)::cl) (.cons (c.new_ref _) (hc.mono l.pre)) h λc' j u hk d b=>q c' j u hk (l.trans d) b))))
   |false=>
    rw[e] at h;rw[if_neg ∅];show An (B9 (ih hc h q))
def HP {c:At S}{fd}{a}{ps}{as}{vs}(hk:fd.scope.kind=.function)(hg:fd.globals=mainGlobals)(hb:fd.builtins=builtinsNs)(rs:c.VRs as vs){k:Fr->AC->Prop}(h:Jc fd a ps as c.σ k){Q}
 (q:∀fr (c':At S) env,k fr c'.σ->c.le c'->AR c'.γ fr env->(∃lid cells,fr=RG fd a lid cells)->Q env c'.s):
   wpAny S.mdl A (newFunctionEnv fd.scope fd.globals fd.closure (ps.zip vs) (fd.qualname++".<locals>.") (some a) fd.code none fd.builtins) Q E c.s:=by
  simp only[newFunctionEnv,Option.isSome_none,Bool.false_eq_true,if_false];show An (wpAny_alloc ?_);have l0:c.le (c.newNs (.type "frame")):=c.le_alloc ..;show An (WH (c:=c.newNs (.type "frame")) (cl:=[]) (clo:=fd.closure) _ (λx cells=>by obtain⟨n,kd⟩:=x;cases b:kd==NameKind.cell<;>simp[b]) .nil h λc1 cells cl h1 l1 hc=>?_);have hl:c1.γ[c.σ.length]?=some c.h.objs.size:=l1.pre.get (c.new_ref _);have d:AR c1.γ (RG fd a c.σ.length cells) {scope:=fd.scope,locals:=c.h.objs.size,globals:=fd.globals,cells:=cl++fd.closure,qual:=fd.qualname++".<locals>.",func:=some a,code:=fd.code,frame:=some c.h.objs.size,builtins:=fd.builtins}:=by
   rw[hg,hb];show⟨hk,_,_,cl,hl,hl,hc,rfl⟩
  show An (Lz (g:=λns vs=>forIn (ns.zip vs) PUnit.unit λx Z=>do storeName _ x.1 x.2;pure (.yield ⟨⟩)) (λh=>?_) (λ{_ _ _ _ _ _} h=>?_) d ((l0.trans l1).vrs rs) h1 λf i l2=>B9 (q _ f _ i ((l0.trans l1).trans l2) (d.mono l2.pre) ⟨_,_,rfl⟩))
  · rw[List.zip_nil_left,mz];show B9 h
  · rw[List.zip_cons_cons,nA];show An (An (NR h (λZ Z h=>B9 h) λZ Z h=>h))
end
section
variable {M:Model}{A:Around}{E:F3}{s:Shared}{env:Env}
def L4 (M:Model)(A:Around)(f:Value)(s:Shared):=∃a,(a=Keeper.frame∨a=Keeper.machine)/\∀(Q:Keeper->Shared->Prop) (E:F3),Q a s->wpAny M A (keeperOf f) Q E s
def GD (c:args.any (·.1)=false)
 (h:wpAny M A (evalArgs f true args []) (λa s₁=>L4 M A f s₁/\wpAny M A (PySem.call f (first++a.pos) a.kw) Q E s₁) E s):wpAny M A (callWith pos f first args []) Q E s:=by
 unfold callWith;show An (QK (NR h (λa s₁ b=>An (Sh ?_)) λZ Z x=>x));obtain⟨⟨j,d,hk⟩,b⟩:=b;have tail:∀ {t:Sem Value},wpAny M A t Q E s₁->wpAny M A (t>>=λr=>holding [r] point>>=λZ=>pure r) Q E s₁:=
  λi=>An (NR i (λr g hr=>An (QK (wpAny_point (B9 hr)))) λZ Z x=>x)
 rw[show (args.any (·.1)||([]:List (Option Str×Sem Value)).any (·.1.isNone))=false by rw[c];rfl];show An (hk _ _ ?_)
 rcases d with rfl|rfl
 · change wpAny M A (ite ..) Q E s₁
   split
   · show tail b
   · show tail (by unfold callMarked;show wpAny_keep b)
 · show tail b
def Fl:Cq xs->(backTo pos (starEach xs env)).any (·.1)=false:=by
 induction xs with
 |nil=>show λZ=>rfl
 |cons x a ih=>
  intro h;obtain⟨h1,b⟩:=KJ h env;rw[h1];change (false||(backTo pos (starEach a env)).any (·.1))=false;rw[ih b];rfl
def FY (hn:Cq (x::j))
 (h:wpAny M A (spliced (backTo pos (starEach (x::j) env))) (λvs s'=>Q ⟨vs,[]⟩ s') E s):wpAny M A (evalArgs f true (backTo pos (starEach (x::j) env)) []) Q E s:=by
 rw[(KJ hn env).1] at h ⊢;show evalArgs_plain h
end
abbrev Hl:=List AV->AC->(AV->AC->Prop)->Prop
inductive X1 where|a (f:Addr)|p (p:Pr)|v (k:Nat)
def L7 (f:X1):Value:=match f with|.a f=>.ref f|.p p=>BN p|.v k=>.ref (Gv k)
structure Jd where
 ctr:List (Addr×Nat×Hl)
 cls:List (Addr×Addr)
 prim:Pr->Hl
 lp:(it:Fk)->Option (Ih->Fr->AC->(Nu it->AC->Prop)->Prop)
 virt:Option (Nat×(Nat->Hl))
section
variable {S:St}
def Gh (S:St)(m:Nat)(a:Addr)(f:Hl):=∀as k (c:At S),f as c.σ k->∀vs,c.VRs as vs->∀A,Ay A m->WK At.le At.VR .ret A c (.call (.ref a) ⟨vs,[]⟩) k
def isFn (S:St)(a:Addr):=∃o fd,S.h₀.get? a=some o/\o.data=.func fd
structure CB (K:Frag) (S:St) (Z:Jd):Prop where
 ctr:∀a x,Z.ctr.lookup a=some x->Gh S x.1 a x.2/\isFn S a
 cls:∀C f,Z.cls.lookup C=some f->makesIn K C/\findIn K (.ref C) "__init__"=some (some (.ref f))/\typeIn K (.ref f)=some (.type "function")
 prim:∀p as k (c:At S),Z.prim p as c.σ k->∀vs,c.VRs as vs->∀A,Ay A 1->WV A c (PySem.call (BN p) vs []) k
 virt:∀x,Z.virt=some x->∀k,Gh S x.1 (Gv k) (x.2 k)/\isFn S (Gv k)
 lp:∀it f,Z.lp it=some f->∀n ih,Good S n ih->∀A,Ay A n->∀fr k (c:At S),f ih fr c.σ k->NB A fr c it k
theorem Ay.le {A}{n m}(h:Ay A n)(hm:m<=n):Ay A m:=⟨jN (uL (Zt 2 hm) _) h.depth,jN (uL (Zt 12 hm) _) h.units,h.handled⟩
theorem Ay.deeper {A}{n}{env}(h:Ay A (n+1)):Ay (A.deeper env) n:=
 ⟨by have:=h.depth;change A.depth+1+2 * n<_;lia,by have:=h.units;change A.units+3+12 * n<_;lia,h.handled⟩
def UE {A}{n}{C}{vals}(h:Ay A (n+1)):Ay (A.under (.builtin "type.__call__" ⟨.ref C::vals,[]⟩)) n:=by
 show⟨?_,?_,h.handled⟩
 · show jN (EX (Nat.le_of_eq (Nat.add_right_comm _ 1 _)) (Nat.le_succ _)) h.depth
 · have:=h.units;have e:(Code.builtin "type.__call__" ⟨.ref C::vals,[]⟩).cUnits=1:=rfl;show jN (EX (Nat.le_of_eq (Nat.add_right_comm _ 1 _)) (uL (by decide:1<=12) _)) h.units
end
section
variable (T:Hj)(Z:Jd)(ih:Ih)
def rU (n:Nat)(x:Nat×Hl)(as:List AV)(σ:AC)(k:DK):=As (Nat.ble x.1 n) (x.2 as σ k)
def X2 (k:DK)(fl:FV)(σ:AC):Prop:=match fl with|.ret v=>k v σ|.next=>k (.d nn) σ|_=>False
def fnA (a:Addr)(F:Fn)(as:List AV)(σ:AC)(k:DK):=As (Nat.beq F.params.length as.length) (Jc F.fd a F.params as σ λfr σ=>ih fr (.ss F.body) σ (X2 k))
def xF (a:AV)(p:Prop):=AD (Br (Ff a) Zi) λx=>As (jJ x) p
def mkA (fr:Fr)(a c:Addr)(as:List AV)(σ:AC)(k:DK):Prop:=
 ih fr (.call (.d (.v (.ref c))) (.ref (σ.length+1)::as)) (σ++[some (.ns [])]++[some (.inst a σ.length)]) λr b=>xF r (k (.ref (σ.length+1)) b)
def xG (n:Nat)(fr:Fr)(a:Addr)(as:List AV)(σ:AC)(k:DK):Prop:=
 AW (Z.ctr.lookup a) (λx=>rU n x as σ k) (AW (T.fns.lookup a) (λF=>fnA ih a F as σ k) (AD (Z.cls.lookup a) λb=>mkA ih fr a b as σ k))
def WI (f:AV):Option X1:=Br (Ff f) λt=>match t with
 |.pr p=>some (.p p)
 |.v x=>(match x with|.ref a=>some (.a a)|_=>none)
 |_=>none
def asA (f:X1):Option Addr:=match f with|.a a=>some a|_=>none
def RH (n:Nat)(fr:Fr)(f:AV)(as:List AV)(σ:AC)(k:DK):Prop:=AD (Br (WI f) asA) λa=>xG T Z ih n fr a as σ k
def WJ (f:X1):Bool:=match f with|.a a=>(Z.ctr.lookup a).isSome||((T.fns.lookup a).isSome||(Z.cls.lookup a).isSome)|.p _=>true|.v _=>Z.virt.isSome
def cZ (n:Nat)(fr:Fr)(f:X1)(as:List AV)(σ:AC)(k:DK):Prop:=match f with|.p p=>Z.prim p as σ k|.a a=>ih fr (.call (.d (.v (.ref a))) as) σ k|.v j=>AD Z.virt λx=>rU n (x.1,x.2 j) as σ k
end
section
variable {T:Hj}{Z:Jd}{ih:Ih}{K:Frag}{S:St}{m:Nat}{A:Around}{fr:Fr}{env:Env}{c:At S}
theorem WL {n}{a}{x}{as}{vs}{k}(hx:Gh S x.1 a x.2)(hr:Ay A n)(rs:c.VRs as vs)(h:rU n x as c.σ k):WK At.le At.VR .ret A c (.call (.ref a) ⟨vs,[]⟩) k:=
 AG h λhm h=>hx as k c h vs rs A (hr.le (DF hm))
def ca (H:BX K S T)(G:Good S m ih)(hr:Ay A (m+1)){a}{F}(s:T.fns.lookup a=some F){as}{vs}{k}(rs:c.VRs as vs)(h:fnA ih a F as c.σ k):WK At.le At.VR .ret A c (.call (.ref a) ⟨vs,[]⟩) k:=by
 show AG h λhm h Q q=>?_;have b:=H.fns a F s;show AH b.obj λo ho hd=>?_;show codeAny_call_function (by have:=hr.depth;lia) (c.R.keep _ _ ho) hd b.co b.gen b.body ?_ ?_
 · show py b.rec_ λc' t d u hc g i hq=>?_;show⟨c',t,d,u,hc,c.R.keep _ _ g,i,hq⟩
 show(b.bind vs (rs.length.symm.trans (LJ hm).symm))▸?_;show B9 (HP b.kind b.glob b.blt rs h λw c1 n h1 l1 j Z=>⟨S.nl.keeps c1.R.keep,codeAny_func (G.st hr.deeper j h1 _ _ λfl p f l l2 rf=>?_)⟩);cases fl with
 |next=>ext rf;show q _ p .none l (l1.trans l2) rfl
 |ret a=>show AH rf λv x r=>?_;subst x;show q a p v l (l1.trans l2) r
 |_=>show l.elim
theorem X3 {a:AV}{v:Value}{p P:Prop}(h:xF a p)(r:c.VR a v)(q:v=.none->p->P):P:=
 AA h λx e h=>AG h λhn h=>AI e λt e1 b=>Ou (P:=λv=>(v=.none->p->P)->P) b (A8 e1 r) (λq=>q (Io hn) h) q
def rV (H:BX K S T)(l:CB K S Z)(G:Good S m ih)(hr:Ay A (m+1)){a b:Addr}(n:Z.cls.lookup a=some b){as}{vs}{k}(rs:c.VRs as vs)(h:mkA ih fr a b as c.σ k):WK At.le At.VR .ret A c (.call (.ref a) ⟨vs,[]⟩) k:=by
 intro Q q;show QR (l.cls a b n) λf i j=>?_;have X:=H.X.keeps c.R.keep;have l1:c.le (c.newNs (.type "dict")):=c.le_alloc ..;have o:(c.newNs (.type "dict")).γ[c.σ.length]?=some c.h.objs.size:=c.new_ref _;have y:AL S.prog S.w ((c.newNs (.type "dict")).γ++[(c.newNs (.type "dict")).h.objs.size]) ((c.newNs (.type "dict")).h.push (instObj a c.h.objs.size)) (.inst a c.σ.length) (c.newNs (.type "dict")).h.objs.size:=.ofInst (J6 _ rfl) (Ka.get ⟨_,rfl⟩ o);have l2:=(c.newNs (.type "dict")).le_alloc (instObj a c.h.objs.size) y;have ex:((c.newNs (.type "dict")).γ++[(c.newNs (.type "dict")).h.objs.size])[c.σ.length+1]?=some (c.h.objs.size+1):=by
  have e:=(c.newNs (.type "dict")).new_ref (c.newNs (.type "dict")).h.objs.size;rw[show (c.newNs (.type "dict")).σ.length=c.σ.length+1 from JT] at e;show e.trans (congrArg some (pu ..))
 obtain⟨γ,σ,s,R⟩:=c;obtain⟨p,g,d,t,os⟩:=s;show make_core (makes_of X f) (looks_findIn X i) (λself=>bind_fn X self j) (.inl rfl) ?_;show G fr _ _ (((⟨γ,σ,⟨p,g,d,t,os⟩,R⟩:At S).newNs (.type "dict")).alloc _ y) h _ (UE hr) (.ref b) _ rfl ⟨_,_,rfl,⟨_,rfl,ex⟩,(l1.trans l2).vrs rs⟩ _ λr c1 v h1 l3 u=>X3 h1 u λe h1=>?_;subst e;show⟨rfl,q _ c1 _ h1 ((l1.trans l2).trans l3) ⟨_,rfl,l3.pre.get ex⟩⟩
theorem Je (e:WI f=some x)(r:c.VR f v):v=L7 x:=AI e λt e1 b=>by
 have r:=A8 e1 r;cases t with
 |pr p=>ext b;show r
 |v y=>ext r;cases v with|ref a=>ext b;rfl|_=>ext b
 |_=>ext b
def cb (e:asA f=some x):f=.a x:=by
 cases f with
 |a=>ext e;rfl
 |_=>ext e
theorem RI (H:BX K S T)(b:CB K S Z)(G:Good S m ih)(hr:Ay A (m+1)){f}{as}{j}{vs}{k}(rf:c.VR f j)(rs:c.VRs as vs)(h:RH T Z ih (m+1) fr f as c.σ k):WK At.le At.VR .ret A c (.call j ⟨vs,[]⟩) k:=
 AA h λa e h=>AI e λx e1 d=>by
  rw[Je e1 rf,cb d];show AE h (λx ex h=>WL (b.ctr a x ex).1 hr rs h) λh=>AE h (λF g h=>ca H G hr g rs h) λh=>AA h λl i h=>rV H b G hr i rs h
def FE {α:Type}{o:Option α}{P:Prop}(h:o.isSome)(q:∀x,o=some x->P):P:=by
 cases o with
 |none=>ext h
 |some x=>show q x rfl
def Ny (H:BX K S T)(d:CB K S Z){f:X1}(h:WJ T Z f):L4 S.mdl A (L7 f) c.s:=by
 have fn:∀a,isFn S a->L4 S.mdl A (.ref a) c.s:=λa ⟨o,fd,ho,hd⟩=>
  ⟨.frame,.inl rfl,λQ E q=>by
    unfold keeperOf;show An (wpAny_load (c.R.keep _ _ ho) ?_);show(hd)▸?_;show B9 q⟩
 cases f with
 |a a=>
  rcases Bool.or_eq_true_iff.mp h with h|h
  · show FE h λx e=>fn a (d.ctr a x e).2
  · rcases Bool.or_eq_true_iff.mp h with h|h
    · show FE h λF e=>AH ((H.fns a F e).obj) λo ho hd=>fn a ⟨o,_,ho,hd⟩
    · show FE h λg i=>?_;obtain⟨⟨l,m,n,r,j,_⟩,_,_,_,_,b,_⟩:=makes_of (M:=model S.prog S.w) (H.X.keeps c.R.keep) (d.cls a g i).1;show⟨.machine,.inr rfl,λQ E q=>?_⟩;unfold keeperOf;show An (wpAny_load j (An (Looks.here b ?_)));rw[if_pos (by decide+kernel)];show B9 q
 |p p=>cases p<;>show⟨.machine,.inr rfl,λQ E q=>B9 q⟩
 |v k=>show FE h λx e=>fn _ (d.virt x e k).2
def RJ (b:CB K S Z)(G:Good S m ih)(hr:Ay A m)(h1:Ay A 1){f}{as}{vs}{k}(rs:c.VRs as vs)(h:cZ Z ih m fr f as c.σ k):WV A c (PySem.call (L7 f) vs []) k:=by
 cases f with
 |a a=>show λE Q q=>wpAny_call (G fr (.call (.d (.v (.ref a))) as) k c h A hr _ vs rfl rs _ q)
 |p p=>show b.prim p as k c h vs rs A h1
 |v j=>show AA h λx e h E Q q=>wpAny_call (WL (b.virt x e j).1 hr rs h _ q)
end
def RK (n:Str):Option Pr:=Bool.rec (Bool.rec (Bool.rec none (some .lextend) (n==("extend":Str))) (some .lpop) (n==("pop":Str))) (some .lappend) (n==("append":Str))
def L8 (n:Str):Option Pr:=Bool.rec (Bool.rec (Bool.rec none (some .dpop) (n==("pop":Str))) (some .dsetdefault) (n==("setdefault":Str))) (some .dget) (n==("get":Str))
def PA (o:AO):Bool:=match o.nf with|.idict _=>true|.sdict _=>true|.iset _ _=>true|_=>false
def xH (o:AO):Bool:=match o with
 |.kd w _ _ _=>(match w with|.vn=>true|_=>false)
 |_=>false
def oJ (T:Hj)(σ:AC)(n:Str)(x:Addr×Nat)(k:X1->Prop):=Tv σ x.2 λfs=>Option.rec (AD (T.absent.lookup x.1) λZ=>AD (T.meths.lookup x.1) λms=>Oz ms n λf=>k (.a f)) (λZ=>False) (fs.lookup n)
def oK (T:Hj)(a:AV)(n:Str)(σ:AC)(k:X1->Prop):Prop:=
 AW (M8 a) (λZ=>As (n==("join":Str)) (k (.p .sjoin)))
 (Cj σ a λZ ao=>AW (IL ao) (λx=>oJ T σ n x k)
   (AW (rE ao) (λx=>As (n==("propagate":Str)) (Db σ x.2 λd=>As (xH d) (k (.v x.1))))
   (AW (items ao) (λZ=>AD (RK n) λp=>k (.p p)) (As (PA ao) (AD (L8 n) λp=>k (.p p))))))
section
variable {T:Hj}{Z:Jd}{ih:Ih}{K:Frag}{S:St}{m:Nat}{A:Around}{fr:Fr}{env:Env}{c:At S}
def oM (T:String)(n:Str)(p:Pr):=∃id,BN p=.builtin id/\Slot T n id/\typeOf (.builtin id)=pure (.type "method_descriptor")
def DN {α:Type}{b:Bool}{x y:Option α}{r:α}{P:Prop}(e:(Bool.rec x y b:Option α)=some r)(h:b->y=some r->P)(h':x=some r->P):P:=by
 cases b with
 |true=>show h rfl e
 |false=>show h' e
theorem NC {n:Str}{p:Pr}(h:RK n=some p):oM "list" n p:=
 DN h (λq e=>by ext e;show(Fz.mp q)▸?_;show⟨_,rfl,PySem.F.slot_list_append,PySem.F.type_list_append⟩) λh=>DN h (λq e=>by ext e;show(Fz.mp q)▸?_;show⟨_,rfl,PySem.F.slot_list_pop,PySem.F.type_list_pop⟩) λh=>
  DN h (λq e=>by ext e;show(Fz.mp q)▸?_;show⟨_,rfl,PySem.F.slot_list_extend,PySem.F.type_list_extend⟩) nofun
theorem ND {n:Str}{p:Pr}(h:L8 n=some p):oM "dict" n p:=
 DN h (λq e=>by ext e;show(Fz.mp q)▸?_;show⟨_,rfl,PySem.F.slot_dict_get,PySem.F.type_dict_get⟩) λh=>DN h (λq e=>by ext e;show(Fz.mp q)▸?_;show⟨_,rfl,PySem.F.slot_dict_setdefault,PySem.F.type_dict_setdefault⟩) λh=>
  DN h (λq e=>by ext e;show(Fz.mp q)▸?_;show⟨_,rfl,PySem.F.slot_dict_pop,PySem.F.type_dict_pop⟩) nofun
def X4 k c r:(M7 k c r).lookup ("propagate":Str)=none:=by
 change (Fi (J9 k) ([]:List (Str×AV)) [] [("divisor",AV.d (.int 1))]).lookup ("propagate":Str)=none;show Na (p:=λl:List (Str×AV)=>l.lookup _=none) rfl rfl rfl _
def MG (S:St)(A:Around)(c:At S)(v:Value)(n:Str)(k:X1->Prop):=∀(a:Sem Bool) (E:F3) (Q:Value×List Value->Shared->Prop),(∀f,k f->Q (L7 f,[v]) c.s)->wpAny S.mdl A (getMethod v n a) Q E c.s
def MA (H:BX K S T){C ad a:Addr}{d:Nat}{n:Str}{l:List Str}{ms:List (Str×Addr)}{f:Addr}{kvs:List (Str×Value)}(ho:c.h.get? ad=some (instObj C a))(hn:c.h.Ns a λx=>kvs.lookup x)(hx:kvs.lookup n=none)(g:T.absent.lookup C=some l)(h:T.meths.lookup C=some ms)(i:ms.lookup n=some f)
 {j:Sem Bool} {E:F3} {Q:Value×List Value->Shared->Prop} (q:Q (.ref f,[.ref ad]) c.s):wpAny S.mdl A (getMethod (.ref ad) n j) Q E c.s:=by
 show M2 (H.cls C l g) λc1 k p r=>?_;obtain⟨m1,m⟩:=H.meths C ms n f h i;show AH (JZ hn) λo b hl=>?_;have I:InstAt c.h ad (instObj C a) C (some o):=⟨ho,rfl,rfl,b⟩
 show method_fn (H.X.keeps c.R.keep) I c1 k m1 m ?_ q;unfold shadowIn;dsimp only;rw[hl n,hx];rfl
def ce (H:BX K S T){x:Addr×Nat}{ad:Addr}{n:Str}{k:X1->Prop}(r:AL S.prog S.w c.γ c.h (.inst x.1 x.2) ad)(h:oJ T c.σ n x k):MG S A c (.ref ad) n k:=by
 show AH r.inst λm ho hd=>?_;show Ec h λfs a h=>Gz h (λex h=>AA h λl b h=>AA h λms g h=>AA h λf i h o E Q q=>?_) λZ Z h=>h.elim;show Ek ((c.R.cells _ _ _ a hd).ns) λkvs j hn hz=>?_;show MA (d:=0) H ho hn (j.none ex) b g i (q _ h)
def cf (e:xH o)(r:AL S.prog S.w γ h o a):∃b c' r',AL S.prog S.w γ h (.ns (M7 b c' r')) a:=by
 cases o with
 |kd w b c' r'=>cases w with|vn=>show⟨b,c',r',r⟩|_=>ext e
 |_=>ext e
def UF (e:PA o)(r:AL S.prog S.w c.γ c.h o a)(d:L8 n=some p)(hk:k (.p p)):MG S A c (.ref a) n k:=by
 intro g E Q q;show Ek (ND d) λf h s1 s2=>?_;have fin:Q (.builtin f,[.ref a]) c.s:=h▸q _ hk;have main:∀b:AO,PA b->b.nf=b->AL S.prog S.w c.γ c.h b a->wpAny S.mdl A (getMethod (.ref a) n g) Q E c.s:=by
  intro b e hn r;cases b with
  |idict=>show AH r.idict λkvs Z hd=>?_;show getMethod_builtin hd.typeIs PySem.F.plainAttrs_dict s1 s2 hd.mapOf.noDict fin
  |sdict=>obtain⟨o,vs,ho,⟨kvs,_,q'⟩,_⟩:=r;have hd:=q' _ _ ho;show getMethod_builtin hd.typeIs PySem.F.plainAttrs_dict s1 s2 hd.mapOf.noDict fin
  |iset=>show AH r.iset λkvs Z hd=>?_;show getMethod_builtin hd.typeIs PySem.F.plainAttrs_dict s1 s2 hd.mapOf.noDict fin
  |kd w=>cases w<;>ext hn
  |_=>ext e
 have nn:o.nf.nf=o.nf:=by
  cases o with
  |kd w=>cases w<;>rfl
  |_=>rfl
 show main o.nf (by unfold PA;rw[nn];show e) nn ?_;unfold AL at r ⊢;rw[nn];show r
def cg (H:BX K S T){a:AV}{v:Value}{n:Str}{k:X1->Prop}(r:c.VR a v)(h:oK T a n c.σ k):MG S A c v n k:=by
 show AE h (λx ex h=>Gx ex r λt=>AG h λf h s E Q q=>?_) λh=>Al h r λi ao ad G u r h=>AE h (λx ex h=>ce H (FD ex▸r) h) λh=>AE h (λx ex h=>AG h λf h=>BM h λo g h=>AG h λhv h s E Q q=>?_) λh=>
  AE h (λxs ex h=>AA h λp j h s E Q q=>?_) λh=>AG h λhi h=>AA h λp j h=>UF hi r j h
 · show(Fz.mp f)▸?_;show getMethod_builtin (T:="str") rfl PySem.F.plainAttrs_str PySem.F.slot_str_join PySem.F.type_str_join (λa e=>by ext e) (q _ h)
 · have r:AL S.prog S.w c.γ c.h (.inst (Lg x.1) x.2) ad:=by unfold AL at r ⊢;rw[Nk ex] at r;show r
   show AH r.inst λI ho hd=>?_;show XY (cf hv (c.R.cells _ _ _ g hd)) λJ c' r' w=>?_;show Ek w.ns λkvs y hn Z=>?_;show(Fz.mp f)▸?_;show pv (H.virt x.1) λl ms u z B Z=>?_;show MA (d:=0) H ho hn (y.none (X4 ..)) u z B (q _ h)
 · show Ek (NC j) λC D s1 s2=>?_;show AH (r.items ex) λits hp Z=>?_;have m:=hp;obtain⟨nn,ho⟩:=m;show getMethod_builtin hp.isList.typeIs PySem.F.plainAttrs_list s1 s2 (λb F=>by ext F;show⟨_,ho,rfl⟩) (D▸q _ h)
end
section
variable (T:Hj)(Z:Jd)(ih:Ih)
def ci (n:Nat)(fr:Fr)(args:List Expr)(f:X1)(first:List AV)(σ:AC)(k:DK):Prop:=As (WJ T Z f) (match args with
 |[]=>cZ Z ih n fr f first σ k
 |x::a=>As (Cq (x::a)) (ih fr (.es (x::a)) σ λ(as:List AV) σ=>cZ Z ih n fr f (first++(as:List AV)) σ k))
def oO (o:Expr):=oE o||Nat.beq o.ctorIdx (Expr.Constant default default default).ctorIdx
def Nz (n:Nat)(fr:Fr)(o:Expr)(c:Str)(b pos:Pos)(args:List Expr)(σ:AC)(k:DK):Prop:=As ((Cq args&&Nat.blt args.length 30)&&((b.endLine==pos.line)&&oO o))
 (ih fr (.e o) σ λa σ=>oK T a c σ λf=>ci T Z ih n fr args f [a] σ k)
def cj (n:Nat)(fr:Fr)(f:Expr)(args:List Expr)(b:List Keyword)(pos:Pos)(σ:AC)(k:DK):Prop:=As b.isEmpty (match f with|.Name y p=>ih fr (.e (.Name y p)) σ λa σ=>AD (WI a) λf=>ci T Z ih n fr args f [] σ k|.Attribute o c p=>Nz T Z ih n fr o c p pos args σ k|_=>False)
end
section
variable {T:Hj}{Z:Jd}{ih:Ih}{K:Frag}{S:St}{m:Nat}{A:Around}{fr:Fr}{env:Env}{c:At S}
def RM (H:BX K S T)(a:CB K S Z)(G:Good S m ih)(hr:Ay A m)(h1:Ay A 1)(d:AR c.γ fr env){args}{f}{first}{vfs}{k}(rs:c.VRs first vfs)(h:ci T Z ih m fr args f first c.σ k){pos}:
 WV A c (callWith pos (L7 f) vfs (backTo pos (starEach args env)) []) k:=by
 show AG h λhc h E Q q=>?_;cases args with
 |nil=>
  show GD rfl (PySem.evalArgs_none ⟨Ny H a hc,?_⟩);rw[XW];show RJ a G hr h1 rs h E Q q
 |cons x b=>
  show AG h λhn h=>GD (Fl hn) (FY hn (G.evs hr d h E _ λas c1 vs g l1 i=>⟨Ny H a hc,(RJ a G hr h1 ((l1.vrs rs).append i) g).more l1 q⟩))
def UG (h:oO o) j:attributeBase o j env (eval o env)=eval o env:=by
 cases o<;>first|rfl|ext h
def PB (H:BX K S T)(i:CB K S Z)(G:Good S m ih)(hr:Ay A m)(h1:Ay A 1)(b:AR c.γ fr env){o}{u}{args}{j pos}{k}(h:Nz T Z ih m fr o u j pos args c.σ k):WV A c (eval (.Call (.Attribute o u j) args [] pos) env) k:=by
 show AG h λhc h E Q q=>?_;have d:=aL hc;have hb:=aR hc;have l:=aL d;have hl:=aR d;have h3:=aL hb;have ho:=aR hb;rw[arm_eval_Call,UG ho];show An (G.ev hr b h E _ λa c1 n p l1 g=>An (Sh ?_));have hf:methodCallForm (args.length+([]:List Keyword).length) (backTo pos (starEach args env)) (backToKw pos (keywordEach [] env)):=by
  have e1:(backTo pos (starEach args env)).all (!·.1):=by
   have:=Fl (env:=env) (pos:=pos) l;rw[List.any_eq_false] at this;rw[QL];intro x hx
   simpa using this x hx
  unfold methodCallForm;rw[e1];change (true&&true&&decide (args.length+0+0<30));show Fy (DF hl)
 unfold methodCall;rw[hf];unfold calleeOf methodCallPos;rw[if_pos rfl];show An (QK (cg H g p _ _ _ λf hk=>?_));dsimp only;rw[h3,if_pos (by rfl)];show An (B9 ((RM (first:=[a]) (vfs:=[n]) H i G hr h1 (b.at l1) ⟨_,_,rfl,g,rfl⟩ hk).more l1 q))
def X5 (H:BX K S T)(g:CB K S Z)(G:Good S m ih)(hr:Ay A m)(h1:Ay A 1)(b:AR c.γ fr env){f}{args}{j}{pos}{k}(h:cj T Z ih m fr f args j pos c.σ k):WV A c (eval (.Call f args j pos) env) k:=by
 show AG h λhk h=>?_;cases NU.mp hk;cases f with
 |Name y p=>show λE Q q=>Call_ (G.ev hr b h E _ λa c1 n d l1 i=>AA d λf l d=>by show(Je l i)▸?_;show(RM (first:=[]) (vfs:=[]) H g G hr h1 (b.at l1) rfl d).more l1 q)
 |Attribute=>show PB H g G hr h1 b h
 |_=>show h.elim
end
def kH (i:Int):Option Bool:=Bool.rec (Bool.rec none (some true) (decide (i=1))) (some false) (decide (i=0))
theorem Jf {i}{b}(e:kH i=some b):i=CZ b:=
 DN e (λh e=>by ext e;show AAL h) λe=>DN e (λh e=>by ext e;show AAL h) nofun
def leS (s:Str):Option Unit:=Bool.rec none (some ()) (s==("<=":Str))
def hd {α β:Type}(l:List α)(f:α->List α->Option β):Option β:=l.rec none λx l Z=>f x l
def nl {α β:Type}(l:List α)(f:Option β):Option β:=l.rec f λZ Z Z=>none
def Iy {α β:Type}{l:List α}{f:α->List α->Option β}{r:β}{P:Prop}(e:hd l f=some r)(q:∀x t,l=x::t->f x t=some r->P):P:=by
 cases l with
 |nil=>ext e
 |cons x l=>show q x l rfl e
def kI {α β:Type}{l:List α}{f:Option β}{r:β}{P:Prop}(e:nl l f=some r)(q:l=[]->f=some r->P):P:=by
 cases l with
 |nil=>show q rfl e
 |cons=>ext e
def l2 {α β:Type}(l:List α)(f:α->α->Option β):Option β:=hd l λx l=>hd l λy l=>nl l (f x y)
def l3 {α β:Type}(l:List α)(f:α->α->α->Option β):Option β:=hd l λx l=>l2 l (f x)
def l5 {α β:Type}(l:List α)(f:α->α->Option β):Option β:=hd l λx l=>hd l λy l=>l3 l λZ Z Z=>f x y
def elD (t:Ty)(d:Dt):Option El:=match t with|.int=>Br (QM d) λi=>some ⟨false,[],i,0,default⟩|.pair=>Br (JS d) λl=>l2 l λx y=>Br (QM x) λi=>Br (QM y) λj=>some ⟨false,[],i,j,default⟩|.str=>Br (jI d) λs=>some ⟨false,[],0,0,s⟩|.trl=>Br (JS d) λl=>l5 l λx y=>Br (QM x) λi=>Br (kH i) λb=>Br (KH y) λe=>some ⟨b,e,0,0,default⟩|.pth=>Br (JS d) λl=>l3 l λx y z=>Br (QM x) λi=>Br (kH i) λb=>Br (jI y) λs=>Br (leS s) λZ=>Br (QM z) λj=>some ⟨b,[],j,0,default⟩|.rft=>Br (JS d) λl=>l2 l λx Z=>Br (QM x) λi=>some ⟨false,[],i,0,default⟩
theorem Kp {α β:Type}{l:List α}{f:α->α->Option β}{r:β}{P:Prop}(e:l2 l f=some r)(q:∀x y,l=[x,y]->f x y=some r->P):P:=Iy e λx l h e=>Iy e λy l h' e=>kI e λa e=>q x y (by rw[h,h',a]) e
theorem WM {α β:Type}{l:List α}{f:α->α->α->Option β}{r:β}{P:Prop}(e:l3 l f=some r)(q:∀x y z,l=[x,y,z]->f x y z=some r->P):P:=Iy e λx l h e=>Kp e λy z h' e=>q x y z (by rw[h,h']) e
theorem kJ {α β:Type}{l:List α}{f:α->α->Option β}{r:β}{P:Prop}(e:l5 l f=some r)(q:∀x y a b c,l=[x,y,a,b,c]->f x y=some r->P):P:=Iy e λx l h e=>Iy e λy l h' e=>WM e λa b c d e=>q x y a b c (by rw[h,h',d]) e
theorem Ad.imp (f:∀v,Ad h l v->Ad h j v)(r:Ah h (.tup l) v):Ah h (.tup j) v:=Bj r λa i e b q=>⟨a,i,e,b,f _ q⟩
theorem Ad.c (f:∀v,Ah h t v->Ah h b v)(g:∀v,Ad h l v->Ad h j v):∀v,Ad h (t::l) v->Ad h (b::j) v:=λ_ ⟨v,a,e,r,rs⟩=>⟨v,a,e,f v r,g a rs⟩
def kK {h:Heap}{t:Ty}{d:Dt}{e:El}(q:elD t d=some e){v:Value}(r:Ah h d v):Ah h (Ti t e) v:=by
 have nil:∀v,Ad h [] v->Ad h [] v:=λZ r=>r;have an:∀ {t v},Ah h t v->Ah h .any v:=λZ=>trivial;cases t with
 |int=>show AI q λi e1 q=>by ext q;rw[CK e1] at r;show r
 |str=>show AI q λi e1 q=>by ext q;rw[D6 e1] at r;show r
 |pair=>show AI q λl e1 q=>Kp q λx y f q=>AI q λi g q=>AI q λj k q=>by ext q;rw[Ci e1,f,CK g,CK k] at r;show r
 |trl=>
  show AI q λl e1 q=>kJ q λx y a b c f q=>AI q λi g q=>AI q λo k q=>AI q λu m q=>by
   ext q;rw[Ci e1,f,CK g,Dp m,Jf k] at r;show Ad.imp (.c (λZ r=>r) (.c (λZ r=>r) (.c (λZ=>an) (.c (λZ=>an) (.c (λZ=>an) nil))))) r
 |pth=>
  show AI q λl e1 q=>WM q λx y z f q=>AI q λi g q=>AI q λo k q=>AI q λs m q=>AI q λZ n q=>AI q λj p q=>by
   ext q;obtain⟨n,_⟩:=Eb n;rw[Ci e1,f,CK g,CK p,D6 m,Jf k,Fz.mp n] at r;show r
 |rft=>
  show AI q λl e1 q=>Kp q λx y f q=>AI q λi g q=>by
   ext q;rw[Ci e1,f,CK g] at r;show Ad.imp (.c (λZ r=>r) (.c (λZ=>an) nil)) r
def elA (t:Ty)(a:AV):=Br (Ff a) (elD t)
theorem WN (q:elA t a=some e)(r:Cg γ h a v):Cg γ' h (Ch t e) v:=AI q λd e1 q=>by cases DM e1;show kK q r
def rW (o:AO)(a:AV)(k:AO->Prop):=AW (IK o) (λx=>x.2.length<=1000/\AD (elA x.1 a) λe=>k (.tl x.1 (x.2++[e]))) (AD (Lk o) λxs=>KC xs.length (k (.list (xs++[a]))))
section
variable {S:St}{A:Around}{c:At S}
def N0 {o:AO}{a:AV}{k}{ad:Addr}{v:Value}{P:Prop}(h:rW o a k)(r:AL S.prog S.w c.γ c.h o ad)(d:c.VR a v)
 (q:∀f its,c.h.PlainList ad its->its.size<=1000->(∀h',TK c.h h'->h'.PlainList ad (its.push v)->AL S.prog S.w c.γ h' f ad)->k f->P):P:=by
  show AE h (λx ex h=>AA h.2 λe g hk=>?_) λi=>AA i λxs ex h=>?_
  · show AH (AL.items (xs:=x.2.map (Ch x.1)) (by show(Bf ex)▸?_;rfl) r) λits hp rs=>?_;show q _ its hp ?_ (λh' tk b=>.ofItems (xs:=(x.2++[e]).map (Ch x.1)) rfl b ?_) hk
    · have:=rs.length;rw[Ei,Ej] at this;rw[<-this];show h.1
    · rw[Array.toList_push,Zf];show(rs.mono (.refl _) tk).append ⟨v,[],rfl,(WN g d:Cg c.γ c.h _ v).mono (.refl _) tk,rfl⟩
  · show AH (AL.items (xs:=xs) (by rw[BQ ex];rfl) r) λits hp rs=>?_;show q _ its hp ?_ (λh' tk b=>.ofItems (xs:=xs++[a]) rfl b ?_) (BF h).2
    · rw[<-Ej,<-rs.length];show(BF h).1
    · rw[Array.toList_push];show(rs.mono (.refl _) tk).append ⟨v,[],rfl,d.mono (.refl _) tk,rfl⟩
end
def MB (σ:AC)(i:Nat)(p:Prop):=Db σ i λo=>As (cF o) p
def AAQ {P:Prop}{e:Expr}(he:Ct e=false)(l:∀a b c d,e=.ListComp a b c d->P)(s:∀a b c d,e=.SetComp a b c d->P)(d:∀a b c d f,e=.DictComp a b c d f->P):P:=by
 cases e with
 |ListComp=>show l _ _ _ _ rfl
 |SetComp=>show s _ _ _ _ rfl
 |DictComp=>show d _ _ _ _ _ rfl
 |_=>ext he
section
variable {S:St}{A:Around}{c:At S}{env:Env}
theorem Hu {i:Nat}{a:Addr}{p:Prop}(b:c.γ[i]?=some a)(h:MB c.σ i p){P:Prop}(q:(∀(E:F3) (Q:F3),Q (.ref a) c.s->wpAny S.mdl A (pyIter (.ref a)) Q E c.s)->p->P):P:=
 BM h λo d h=>AG h λhi h=>q (λE Q fin=>by
  have r:=c.R.cells _ _ _ d b;cases o with
  |titer=>show Hi r.titer λZ Z hi Z=>?_;show wpAny_pyIter_tupleiter hi fin
  |liter=>show AH r.liter λZ hi Z=>?_;show wpAny_pyIter_listiter hi fin
  |riter=>show wpAny_pyIter_rangeiter r.riter fin
  |enum=>show Hi r.enum λZ Z hi Z=>?_;show wpAny_pyIter_enum hi fin
  |kiter=>show AH r.kiter λZ hi Z=>?_;show wpAny_pyIter_keyiter hi fin
  |_=>ext hi) h
def RN (M:Model)(A:Around)(R:Result->Shared->Prop)(fin:Fin)(s:Shared):Prop:=match fin with|.done f=>R (.ok f) s|.again c=>c.quiet/\codeAny M A c R s
def MC {e:Expr}{d:Nat}{it acc:Value}{g:Comprehension}{prog:Program}{w:World}{s:Shared}{R}(he:Ct e=false)(hg:(clausesOf e)[d]?=some g)(i:g.is_async=0)
 (hi:∀(E:F3) (Q:F3),Q it s->wpAny (model prog w) A (pyIter it) Q E s) (h:codeAny (model prog w) A (.compLoop e d it acc env) R s):
   codeAny (model prog w) A (.compStart e d it acc env) R s:=by
  show codeAny_of_tree ?_;have hd:wpAny (model prog w) A ((compStart e d it acc env).onRaise λx=>do noteFrame x env;standAt theWindowsPlace) (RN (model prog w) A R) (λe s'=>R (.error e) s') s->
   wpAny (model prog w) (A.under (.compStart e d it acc env)) ((model prog w).den (.compStart e d it acc env)) (RN (model prog w) A R) (λe s'=>R (.error e) s') s:=
   AAQ he (λa b c d e=>by subst e;show λx=>x) (λa b c d e=>by subst e;show λx=>x) (λa b c d f e=>by subst e;show λx=>x)
  show hd (wpAny_notedAt ?_);unfold compStart;have h0:(((clausesOf e)[d]?).elim false (·.is_async !=0))=false:=by rw[hg];change (g.is_async !=0)=false;rw[i];rfl
  rw[h0,if_neg ∅];show An (wpAny_askSetting (wpAny_ite ?_))
  split
  · first|show An (B9 (B9 (And.intro rfl h)))|show B9 (And.intro rfl h)
  · show An (wpAny_rule ?_);show(hg)▸?_;show An (Sh (An (hi _ _ (B9 (And.intro rfl h)))))
def X6 {e:Expr}{d:Nat}{it acc:Value}{prog:Program}{w:World}{s:Shared}{R}(he:Ct e=false)
 (h:wpAny (model prog w) A (compTurn e d it acc env) (RN (model prog w) A R) (notedBy (model prog w) A env λe s'=>R (.error e) s') s):codeAny (model prog w) A (.compLoop e d it acc env) R s:=by
  show codeAny_of_tree ?_;have hd:wpAny (model prog w) A ((compTurn e d it acc env).onRaise λx=>do noteFrame x env;theTreesLotGoes x) (RN (model prog w) A R) (λe s'=>R (.error e) s') s->
   wpAny (model prog w) (A.under (.compLoop e d it acc env)) ((model prog w).den (.compLoop e d it acc env)) (RN (model prog w) A R) (λe s'=>R (.error e) s') s:=
   AAQ he (λa b c d e=>by subst e;show λx=>x) (λa b c d e=>by subst e;show λx=>x) (λa b c d f e=>by subst e;show λx=>x)
  show hd (wpAny_noted h)
end
section
variable (ih:Ih)
def UH (fr:Fr)(l:List Expr)(σ:AC)(k:Bool->AC->Prop):Prop:=match l with|[]=>k true σ|c::r=>ih fr (.t c) σ λb σ=>fork b λb=>Bool.rec (k false σ) (UH fr r σ k) b
def oP (fr:Fr)(e:Expr)(acc:Nat)(σ:AC)(k:AC->Prop):Prop:=match e with|.ListComp c _ _ _=>ih fr (.e c) σ λa σ=>Db σ acc λo=>rW o a λo=>k (σ.set acc (some o))|.DictComp d f _ _ _=>O7 ih fr d f σ λa b σ=>AD (Cp a) λj=>Db σ acc λo=>AD (Iq o) λes=>KC es.length (k (σ.set acc (some (.idict (put j b es)))))|_=>False
def UI (rec:AC->Prop)(fr:Fr)(e:Expr)(d acc:Nat)(σ:AC):Prop:=
 AW ((clausesOf e)[d+1]?) (λg=>As (FW g.iter&&g.is_async==0) (ih fr (.e g.iter) σ λx σ=>V8 x σ λj σ=>MB σ j (ih fr (.cl e (d+1) j acc) σ λZ σ=>rec σ))) (oP ih fr e acc σ rec)
def ck (rec:AC->Prop)(fr:Fr)(e:Expr)(d acc:Nat)(g:Comprehension)(k:Unit->AC->Prop)(r:Option AV)(σ:AC):Prop:=
 Option.rec (k () σ) (λav=>ih fr (.asg g.target av) σ λZ σ=>UH ih fr g.ifs σ λb σ=>Bool.rec (rec σ) (UI ih rec fr e d acc σ) b) r
def UJ (rec:AC->Prop)(fr:Fr)(e:Expr)(d it acc:Nat)(σ:AC)(k:Unit->AC->Prop):Prop:=As (!Ct e)
 (AD (clausesOf e)[d]? λg=>As (g.is_async==0) (cG g.target it σ (ck ih rec fr e d acc g k)))
end
section
variable {ih:Ih}{S:St}{m:Nat}{A:Around}{fr:Fr}{env:Env}{c:At S}
def RO (env:Env)(c:Expr)(r:Bool):=if r=true then (do let ok<-isTrue c env (eval c env);pure (ForInStep.yield ok)) else pure (ForInStep.yield r)
def UK:∀(l:List Expr) {Q:Bool->Shared->Prop},Q false s->wpAny S.mdl A (forIn l false (RO env)) Q E s:=by
 intro l
 induction l with
 |nil=>intro Q hq;rw[mz];show B9 hq
 |cons c l ih=>intro Q hq;rw[nA];unfold RO;rw[if_neg ∅];show An (B9 (ih hq))
def X7 (G:Good S m ih)(hr:Ay A m){l}:∀ {c:At S} (_:AR c.γ fr env) {k:Bool->AC->Prop} (_:UH ih fr l c.σ k),WB A c (forIn l true (RO env)) k:=by
 induction l with
 |nil=>intro c a k h E Q q;rw[mz];show B9 (q true c _ h (.refl c) rfl)
 |cons x r d=>
  intro c a k h E Q q;rw[nA];unfold RO;rw[if_pos rfl];show An (An (G.tr hr a h E _ λb c1 f h1 l1 e=>B9 ?_));ext e;have h1:=EQ h1;cases b with
  |true=>show(d (a.at l1) h1).more l1 q
  |false=>show UK r (q false c1 _ h1 l1 rfl)
def cm (e:Expr)(acc:Value)(env:Env):Sem Unit:=match e with
 |.ListComp a _ _ _=>(do let _<-PySem.call (.builtin "list.append") [acc,<-eval a env])
 |.SetComp a _ _ _=>(do let v<-eval a env;standAt a.pos;let _<-PySem.call (.builtin "set.add") [acc,v])
 |.DictComp k v _ _ _=>(do
    let b<-eval k env
    let c<-holding [b] (eval v env)
    match acc with
    |.ref d=>do
      standAt {k.pos with endLine:=v.pos.endLine,endCol:=v.pos.endCol}
      holding [b,c] (dictSet d b c)
    |_=>unsupported "internal:dictcomp")
 |.GeneratorExp a _ _ _=>(do let v<-eval a env;standAt a.pos;let _<-yieldOut env v)
 |_=>unsupported "internal:not-a-comprehension"
def cp (G:Good S m ih)(hr:Ay A m)(v:AR c.γ fr env){e:Expr}{acc:Nat}{b:Addr}(w:c.γ[acc]?=some b){k}(h:oP ih fr e acc c.σ k):WU A c (cm e (.ref b) env) k:=by
 cases e with
 |ListComp C D F c'=>
  show λE Q q=>An (G.ev hr v h E _ λa c1 i h1 l1 H=>BM h1 λo f h1=>?_);have d:=l1.pre.get w;show N0 h1 (c1.R.cells _ _ _ f d) H λM its hp hz x hk=>?_;show An (wpAny_list_append_plain hp (λh' n I=>B9 (q () (c1.put c1.s.toks f d (λb o ne e=>(I.2 b ne).trans e) λZ q tk=>by ext q;show x h' tk n) () hk (l1.trans (c1.le_put ..)) trivial)) (by show(KY)▸?_;lia))
 |DictComp J p D F c'=>
  show λE Q q=>An (NR (G.two (Q:=λi z s=>wpAny S.mdl A (standAt {J.pos with endLine:=p.pos.endLine,endCol:=p.pos.endCol}>>=λZ=>holding [i,z] (dictSet b i z)) Q E s) hr v h λx y c1 p N h l K L Z=>AA h λj ej h=>BM h λo f h=>AA h λes r h=>?_) (λi s h=>An (QK h)) λZ Z h=>h);obtain⟨hz,hk⟩:=BF h;have d:=l.pre.get w;show AH (AL.idict (CH r▸c1.R.cells _ _ _ f d)) λkvs B hd=>?_;show An (Sh (QK (A9 ej K λt=>wpAny_dictSet_pairs (knd:=intKind S.prog S.w) (k:=j) (FU j t) hd (λh' g u=>?_) (by rw[B.length,KY];lia))));rw[F8 _ _ (DictOf.nodup hd)] at g;show q () (c1.put (c1.s.toks+1) f d (λb o ne e=>(u.2 b ne).trans e) λZ q tk=>by ext q;show .ofIdict ((B.mono (.refl _) tk).put (L.mono (.refl _) tk)) g) () hk (l.trans (c1.le_put ..)) trivial
 |_=>show h.elim
def restOf (e:Expr)(d:Nat)(it acc:Value)(env:Env):Sem Fin:=match (clausesOf e)[d+1]? with
 |some a=>do
  let x<-eval a.iter env
  standAt a.iter.pos
  let x<-if a.is_async !=0 then foldedIterable a.iter x else foldedSetIterable a.iter env x
  let _<-runOwn (.compStart e (d+1) (<-holding [x] (if a.is_async !=0 then asyncIter x else pyIter x)) acc env) env
  again (.compLoop e d it acc env)
 |none=>do cm e acc env;again (.compLoop e d it acc env)
def UL (e:Expr)(d:Nat)(it acc:Value)(g:Comprehension)(env:Env)(v:Value):Sem Fin:=do
 assign g.target env v
 let ok<-forIn g.ifs true (RO env)
 if ok=true then restOf e d it acc env else again (.compLoop e d it acc env)
theorem RS {e:Expr}{d:Nat}{it acc:Value}{g:Comprehension}(he:Ct e=false)(hg:(clausesOf e)[d]?=some g)(i:g.is_async=0):compTurn e d it acc env=(do
 standAt g.iter.pos
 match<-pyNext it with
 |none=>pure (.done .next)
 |some v=>do letOwnedTupleGo g.target it v;UL e d it acc g env v):=by
 show AAQ he (λa b c h q=>?_) (λa b c h q=>?_) (λa j b h f q=>?_)<;>
 · subst q;unfold compTurn;dsimp only;rw[show b[d]?=some g from hg];dsimp only;rw[i];rfl
end
section
variable {ih:Ih}{S:St}{m:Nat}{A:Around}{fr:Fr}{env:Env}{c:At S}
def N1 (G:Good S m ih)(hr:Ay A m){e}{d it acc}{k}{rec}{N}(t:∀c':At S,rec c'.σ->ER (At.leN N) A fr c' (.cl e d it acc) k)(h:UJ ih rec fr e d it acc c.σ k):ER (At.leN N) A fr c (.cl e d it acc) k:=by
 intro env s a b J y i q;show AG h λhe h=>AA h λg hg h=>AG h λB h=>?_;have he:Ct e=false:=by cases z:Ct e with|false=>rfl|true=>rw[z] at he;ext he
 have B:g.is_async=0:=eq_of_beq B;show X6 he ?_;rw[RS he hg B];have body:∀av (c1:At S) v,ck ih rec fr e d acc g k (some av) c1.σ->c.le c1->c1.VR av v->wpAny S.mdl A (UL e d (.ref a) (.ref b) g env v) (RN S.mdl A i) (notedBy S.mdl A env λe s'=>i (.error e) s') c1.s:=by
  intro av c1 v h1 l1 P;have back:∀c':At S,c.le c'->rec c'.σ->wpAny S.mdl A (again (.compLoop e d (.ref a) (.ref b) env)) (RN S.mdl A i) (notedBy S.mdl A env λe s'=>i (.error e) s') c'.s:=
   λc' l h'=>B9 ⟨rfl,t c' h' env (s.at l) a b (l.pre.get J) (l.pre.get y) i λr c'' x hk Q C=>q r c'' x hk (l.transN Q) C⟩
  show An (G.asg hr (s.at l1) h1 P _ _ λ_ Z _ R l2 _=>An (X7 G hr ((s.at l1).at l2) R _ _ λok K T h3 l3 U=>?_));ext U;have f:=(l1.trans l2).trans l3;cases ok with
  |false=>rw[if_neg ∅];show back K f h3
  |true=>
   rw[if_pos rfl];unfold restOf;have h3:UI ih rec fr e d acc K.σ:=h3;unfold UI at h3;cases o:(clausesOf e)[d+1]? with
   |some L=>
    rw[o] at h3;show AG h3 λhc h3=>?_;have D:=aL hc;have E:=aR hc;have u:L.is_async=0:=eq_of_beq E;have hb:(L.is_async !=0)=false:=by rw[u];rfl
    dsimp only;rw[hb];show An (G.ev hr (s.at f) h3 _ _ λx M vx F H C=>An (Sh ?_));rw[if_neg ∅];show An (wpAny_of_eq (FX D _ _) ?_);rw[if_neg ∅];show An (QK (Lx C F _ _ λj V vj I l5 ⟨ad,ej,O⟩=>?_));subst ej;show Hu (A:=A) O I λhi I=>?_;have p:=(f.trans H).trans l5;show An (wpAny_runOwn (MC he o u hi (G fr (.cl e (d+1) j acc) _ V I A hr env (s.at p) ad b O (p.pre.get y) _ λ_ W _ X Y _=>back W (p.trans Y) X)))
   |none=>rw[o] at h3;show An (cp G hr (s.at f) (f.pre.get y) h3 _ _ λ_ M _ F H _=>back M (f.trans H) F)
 show An (Sh (An (NR (Q8 hr.handled J h _ (λ_ v w=>wpAny S.mdl A (UL e d (.ref a) (.ref b) g env v) (RN S.mdl A i) (notedBy S.mdl A env λe s'=>i (.error e) s') w) (λs₁=>i (.ok .next) s₁)
  (λc1 h1 l1=>q () c1 () h1 (l1.toN N) trivial) body) (λr s₁ n=>?_) λ_ _ x=>x)))
 cases r with
 |none=>show B9 n
 |some v=>show An n
end
def relA (scope:Scope)(fr:Fr):Scope:=
 {scope with names:=scope.names.map λ(n,k)=>if (k==.free&&fr.scope.kind==.function&&fr.scope.names.lookup n==some .cell) then (n,.cell) else (n,k)}
def UM (cells:List (Str×Nat))(l:List (Str×NameKind))(acc:List (Str×Nat)):Option (List (Str×Nat)):=match l with|[]=>some acc|x::r=>Bool.rec (UM cells r acc) (Br (cells.lookup x.1) λi=>UM cells r ((x.1,i)::acc)) (x.2==.free)
def kL (scope:Scope):=scope.kind==.function&&scope.names.all λx=>x.2 !=.local||scope.names.lookup x.1==some .local
def MD (e:Expr):Option (AO×Scope):=match e with|.ListComp _ _ s _=>some (.list [],s)|.DictComp _ _ _ s _=>some (.idict [],s)|_=>none
def cr (fr:Fr)(scope:Scope)(lid:Nat)(cells:List (Str×Nat)):Fr:=
 {scope:=relA scope fr,lid:=lid,cells:=cells,clo:=[],qual:=fr.qual,func:=none,code:=fr.code,fid:=fr.fid}
section
variable (ih:Ih)
def cv (fr:Fr)(e:Expr)(scope:Scope)(i:Nat)(a:AC)(k:Nat->Nat->AC->Prop)(b:AC)(cells:List (Str×Nat)):Prop:=
 MB b i (ih (cr fr scope (a.length+1) cells) (.cl e 0 i a.length) b λZ c=>k a.length (a.length+1) c)
def cw (fr:Fr)(e:Expr)(ao:AO)(scope:Scope)(σ:AC)(k:Nat->Nat->AC->Prop):Prop:=AD (clausesOf e)[0]? λg=>As (FW g.iter&&(g.is_async==0&&kL scope))
 (AD (UM fr.cells scope.names []) λclo=>ih fr (.e g.iter) σ λa c=>V8 a c λi b=>layA scope.names (b++[some ao]++[some (.ns [])]) clo (cv ih fr e scope i b k))
def cy (σ:AC)(lid:Nat)(p:Prop):=Tv σ lid λZ=>p
def ME (fr:Fr)(e:Expr)(σ:AC)(k:DK):=AD (MD e) λx=>cw ih fr e x.1 x.2 σ λacc lid σ=>cy σ lid (k (.ref acc) (σ.set lid none))
def dA (fr:Fr)(e:Expr)(scope:Scope)(x:Str)(line:Nat):Bool:=fr.scope.names.lookup x==some .local&&line==e.pos.line&&!(scope.names.any λ(n,k)=>n==x&&(k==.local||k==.cell))
def MF (fr:Fr)(e:Expr)(x:Str)(line:Nat)(σ:AC)(k:AC->Prop):Prop:=AD (MD e) λy=>
 Bool.rec (ih fr (.e e) σ λa σ=>IN fr x a σ k) (cw ih fr e y.1 y.2 σ λacc lid σ=>IN fr x (.ref acc) σ λσ=>cy σ lid (k (σ.set lid none))) (dA fr e y.2 x line)
end
section
variable {ih:Ih}{S:St}{m:Nat}{A:Around}{fr:Fr}{env:Env}{c:At S}{E:F3}
def kM {γ}{cells}{cl clo}(hc:Et γ cells cl)(g:env.cells=cl++clo){f:Str×NameKind->List (Str×Addr)->Sem (ForInStep (List (Str×Addr)))}(hf:∀x j,f x j=if (x.2==.free)=true then (do let a<-cellOf env x.1;pure (.yield ((x.1,a)::j))) else pure (.yield j)):
 ∀ {names:List (Str×NameKind)} {acc r:List (Str×Nat)} {b:List (Str×Addr)},Et γ acc b->UM cells names acc=some r->∃r',forIn names b f=pure r'/\Et γ r r':=by
 intro names
 induction names with
 |nil=>intro acc r b h e;ext e;show⟨b,by rw[mz],h⟩
 |cons x c d=>
  intro acc r b h e
  replace e:Bool.rec (UM cells c acc) (Br (cells.lookup x.1) λi=>UM cells c ((x.1,i)::acc)) (x.2==.free)=some r:=e
  cases hk:x.2==NameKind.free with
  |true=>
   rw[hk] at e;show AH (Bc e) λi l e=>?_;show AH (hc.lookup l) λa m n=>?_;show AH (d (.cons m h) e) λr' h1 k=>?_;show⟨r',?_,k⟩;rw[nA,hf,if_pos hk,show cellOf env x.1=pure a by unfold cellOf;rw[g,n clo]];show h1
  |false=>
   rw[hk] at e;show AH (d h e) λr' h1 k=>?_;show⟨r',?_,k⟩;rw[nA,hf,if_neg (by rw[hk];decide)];show h1
def kN {γ}(c:AR γ fr env){scope}{r}(e:UM fr.cells scope.names []=some r):∃cl,closureFor scope env=pure cl/\Et γ r cl:=by
 obtain⟨hk,L,F,cl,h1,i,h3,d⟩:=c;obtain⟨r',g,h⟩:=kM (env:=env) (clo:=fr.clo) h3 (by rw[d]) (f:=λ(x:Str×NameKind) b=>if (x.2==.free)=true then (do let a<-cellOf env x.1;pure (.yield ((x.1,a)::b))) else pure (.yield b)) (λZ Z=>rfl) .nil e;show⟨r',?_,h⟩;unfold closureFor;change (forIn scope.names [] (λ(x:Str×NameKind) b=>if (x.2==.free)=true then (do let a<-cellOf env x.1;pure (.yield ((x.1,a)::b))) else pure (.yield b))>>=λb=>pure b)=_;rw[g];rfl
def UN (i:AR c.γ fr env){scope}(hk:scope.kind=.function){clo}{cl}(hc:Et c.γ clo cl){k}(h:layA scope.names (c.σ++[some (.ns [])]) clo k){Q}
 (q:∀(c':At S) cells j,k c'.σ cells->c.le c'->c'.γ[c.σ.length]?=some j.locals->AR c'.γ (cr fr scope c.σ.length cells) {j with scope:=relabel scope env}->Q j c'.s):
   wpAny S.mdl A (newFunctionEnv scope env.globals cl [] env.qual none .none (some env)) Q E c.s:=by
  simp only[newFunctionEnv,Option.isSome_some,if_true];show An (wpAny_alloc ?_);have l0:c.le (c.newNs (.type "dict")):=c.le_alloc ..;rw[show cl=cl++[] from (XW cl).symm];show An (WH (c:=c.newNs (.type "dict")) (cl:=cl) (clo:=[]) _ (λx cells=>by obtain⟨n,kd⟩:=x;cases d:kd==NameKind.cell<;>simp[d]) (hc.mono l0.pre) h λc1 cells a h1 l1 f=>?_);have hl:c1.γ[c.σ.length]?=some c.h.objs.size:=l1.pre.get (c.new_ref _);have b:=l0.trans l1;obtain⟨l,L,F,g,g1,g2,m,rfl⟩:=i;show An (by rw[mz];show B9 (B9 (q c1 cells _ h1 b hl ⟨hk,c.h.objs.size,F,a,hl,b.pre.get g2,f,rfl⟩)))
def MH (e:Expr):Sem Value:=match e with|.ListComp .. =>newList []|.DictComp .. =>newDict|_=>unsupported ""
def At.newDict (c:At S):=c.alloc {cls:=.type "dict",data:=.dict #[]} (ao:=.idict []) (.ofIdict (kvs:=[]) ⟨rfl,rfl⟩ (Heap.DictOf.new c.h))
def D7 {e:Expr}{x:AO×Scope}{P:Prop}(h:MD e=some x)(l:∀a b s p,e=.ListComp a b s p->x=(.list [],s)->P)(d:∀a b c s p,e=.DictComp a b c s p->x=(.idict [],s)->P):P:=by
 cases e with
 |ListComp a b s p=>ext h;show l a b s p rfl rfl
 |DictComp a b c s p=>ext h;show d a b c s p rfl rfl
 |_=>ext h
theorem X8 {e:Expr}{x:AO×Scope}(h:MD e=some x){Q}(q:∀c':At S,c'.σ=c.σ++[some x.1]->c.le c'->c'.γ[c.σ.length]?=some c.h.objs.size->Q (.ref c.h.objs.size) c'.s):wpAny S.mdl A (MH e) Q E c.s:=
 D7 h (λa b s p e1 d=>by subst e1 d;show jM (q (c.newList (o:=.list []) (its:= #[]) rfl rfl) rfl (c.le_new ..) (c.new_ref _)))
  (λa b f s p e1 d=>by subst e1 d;show jM (q c.newDict rfl (c.le_alloc ..) (c.new_ref _)))
def RT (G:Good S m ih)(hr:Ay A m)(C:AR c.γ fr env){e}(he:Ct e=false){x}(hx:MD e=some x){k}(h:cw ih fr e x.1 x.2 c.σ k){pos}{use}{Q}
 (q:∀acc lid (c':At S) a L,k acc lid c'.σ->c.le c'->c'.γ[acc]?=some a->c'.γ[lid]?=some L->compPost S.mdl A E use Q (.ref a) L (.ok .next) c'.s):
   wpAny S.mdl A (comprehension e x.2 env pos (MH e) (firstAsync (clausesOf e)) (firstIter (clausesOf e) env) use) Q E c.s:=by
  show AA h λg hg h=>AG h λhc h=>AA h λclo o h=>?_;have D:=aL hc;have hc:=aR hc;have F:=aL hc;have p:=aR hc;have H:g.is_async=0:=eq_of_beq F;have k1:=aL p;have P:=aR p;have k1:x.2.kind=.function:=eq_of_beq k1;have d:∀y∈x.2.names,y.2=.local->x.2.names.lookup y.1=some .local:=λy R hl=>by
   have:=QL.mp P y R;rw[hl] at this
   simpa using this
  obtain⟨u,j⟩:∃u,clausesOf e=g::u:=by
   cases z:clausesOf e with
   |nil=>rw[z] at hg;ext hg
   |cons y u=>rw[z] at hg;ext hg;show⟨u,rfl⟩
  obtain⟨t,it,f,T⟩:=g;have H:T=0:=H;subst H;obtain⟨cl,l,I⟩:=kN (scope:=x.2) C o;rw[show firstAsync (clausesOf e)=false by rw[j];rfl,show firstIter (clausesOf e) env=eval it env by rw[j];rfl];show wpAny_comprehension_free (E:=E) j (FX D _) l k1 d (G.ev hr C h _ _ λa c1 va h1 l1 U=>Lx U h1 _ _ λi v vi V l2 ⟨b,W,K⟩=>?_);subst W;show X8 (c:=v) hx λX M l3 w=>?_;have n:=(l1.trans l2).trans l3;have r:X.σ.length=v.σ.length+1:=by rw[M,JT];rfl
  show UN (C.at n) k1 (I.mono n.pre) (k:=cv ih fr e x.2 i v.σ k) (M▸V) λY cells N J B O s=>?_;rw[r] at O s;have w:=B.pre.get w;show Hu (A:=A) ((l3.trans B).pre.get K) J λhi J=>MC he hg rfl hi (G _ (.cl e 0 i v.σ.length) _ Y J A hr _ s _ _ ((l3.trans B).pre.get K) w _ λ_ Z _ h5 l5 _=>?_);show q _ _ Z _ _ h5 ((n.trans B).trans l5) (l5.pre.get w) (l5.pre.get O)
theorem MI {lid:Nat}{L:Addr}{p:Prop}(a:c.γ[lid]?=some L)(h:cy c.σ lid p){P:Heap->Prop}(q:∀c':At S,c'.σ=c.σ.set lid none->c.le c'->p->∀h',c'.s={c.s with heap:=h'}->P h'):
 ∃d,c.h.Ns L d/\∀h',Heap.SameBut L c.h h'->P h':=
 Ec h λfs e hp=>by
  show Ek ((c.R.cells _ _ _ e a).ns) λkvs i hn Z=>?_;show⟨_,hn,λh' f=>?_⟩
  let c':=c.put (co:=none) c.s.toks e a (λb o ne g=>(f.2 b ne).trans g) (λZ q=>nomatch q)
  show q c' rfl (c.le_put ..) hp h' rfl
theorem AAU {e:Expr}{x:AO×Scope}(h:MD e=some x):Ct e=false:=D7 h (λa b s p e1 Z=>by subst e1;rfl) (λa b c s p e1 Z=>by subst e1;rfl)
def KN (G:Good S m ih)(hr:Ay A m)(g:AR c.γ fr env){e:Expr}{k:DK}(h:ME ih fr e c.σ k):WV A c (eval e env) k:=by
 show AA h λx hx h E Q q=>?_;have main:∀pos,wpAny S.mdl A (comprehension e x.2 env pos (MH e) (firstAsync (clausesOf e)) (firstIter (clausesOf e) env) none) Q E c.s:=λpos=>
  RT G hr g (AAU hx) hx h λacc lid r a L i l5 j l=>MI l i λn o f hk h' es=>by
   have:=q (.ref acc) n (.ref a) (o▸hk) (l5.trans f) ⟨a,rfl,f.pre.get j⟩;rwa [es] at this
 show D7 hx (λa b s p e1 d=>by subst e1 d;show main _) (λa b t s p e1 d=>by subst e1 d;show main _)
def dB (g:AR c.γ fr env){e:Expr}{y:AO×Scope}(h:MD e=some y){x:Str}{p pos:Pos}:swapsWith e (some (.Name x p)) pos.line env=pure (dA fr e y.2 x p.line):=by
 obtain⟨hk,i⟩:=g.kindEq;have hb:(env.blockKind==.function):=by unfold Env.blockKind;rw[hk];rfl
 have main:∀(sc:Scope) (d:Pos),(pure (env.blockKind==.function&&env.kindOf x==some .local&&p.line==d.line&&!(sc.names.any λ(n,k)=>n==x&&(k==.local||k==.cell))):Sem Bool)=
  pure (fr.scope.names.lookup x==some .local&&p.line==d.line&&!(sc.names.any λ(n,k)=>n==x&&(k==.local||k==.cell))):=λsc d=>by
  rw[hb];unfold Env.kindOf;rw[i,mu]
 show D7 h (λa b s p e1 f=>by subst e1 f;show main _ _) (λa b j s p e1 f=>by subst e1 f;show main _ _)
def NE (G:Good S m ih)(hr:Ay A m)(d:AR c.γ fr env){e:Expr}{x:Str}{p pos:Pos}{k:FV->AC->Prop}(h:MF ih fr e x p.line c.σ (k .next)):W At.FR A c (exec (.Assign [.Name x p] e pos) env) k:=by
 show AA h λy f h E Q q=>?_;have g:=dB (x:=x) (p:=p) (pos:=pos) d f;cases b:dA fr e y.2 x p.line with
 |false=>
  rw[b] at h g;show wpAny_Assign_Name (G.ev hr d h E _ λa c1 F h1 l1 l=>Fj (d.at l1) l h1 E _ λZ n Z o l2 Z=>q .next n .next o (l1.trans l2) rfl) g
 |true=>
  rw[b] at h g;rw[PyProof.Rows.exec_Assign];show An (Sh ?_);rw[show swapsWithSole [.Name x p] e pos.line env=pure true from g];show An (B9 ?_);rw[if_pos rfl];have main:∀ps,wpAny S.mdl A (comprehension e y.2 env ps (MH e) (firstAsync (clausesOf e)) (firstIter (clausesOf e) env) (some λv=>assignAll v ((assignEach [.Name x p] env).map (·.2)))) (λZ s'=>Q .next s') E c.s:=by
   intro ps;show RT G hr d (AAU f) f h λacc lid H a L r l5 t u=>?_;change wpAny _ _ (assign (.Name x p) env (.ref a)) _ _ _;show PyProof.Rows.assign_Name (Fj (av:=.ref acc) (d.at l5) ⟨a,rfl,t⟩ r _ _ λZ I Z w i Z=>MI (i.pre.get u) w λB C D hk h' es=>?_);have:=q .next B .next (C▸hk) ((l5.trans i).trans D) rfl;rwa [es] at this
  have fin:∀ps,wpAny S.mdl A (comprehension e y.2 env ps (MH e) (firstAsync (clausesOf e)) (firstIter (clausesOf e) env) (some λv=>assignAll v ((assignEach [.Name x p] env).map (·.2)))>>=λZ=>pure Flow.next) Q E c.s:=λps=>An (NR (main ps) (λZ s' hq=>B9 hq) λZ Z z=>z);show D7 f (λa b s p e1 j=>?_) (λa b J s p e1 j=>?_)<;>
  · subst e1 j;show An ?_;change wpAny _ _ (_>>=_) _ _ _;show An (NR (main _) (λZ s' hq=>B9 (B9 hq)) λZ Z z=>z)
end
section
variable (ih:Ih)
def UO (fr:Fr)(c:List (Option Expr))(vs:List Expr)(σ:AC)(k:List (Str×AV)->AC->Prop):Prop:=match c with|[]=>Bool.rec False (k [] σ) vs.isEmpty|x::c=>AD x λx=>(match vs with|[]=>False|v::vs=>O7 ih fr x v σ λa b σ=>AD (M8 a) λs=>UO fr c vs σ λes σ=>k ((s,b)::es) σ)
def dC (l:List Str):Bool:=match l with|[]=>true|x::l=>!(l.contains x)&&dC l
def X9 (o:AO):Option (List (Str×AV)):=match o with|.sdict es=>some es|_=>none
def rX (a:List (Option Expr))(vs:List Expr):Bool:=(a.all (·.isSome)&&Nat.beq a.length vs.length)&&(!a.isEmpty&&Nat.ble a.length 15)
def xI (fr:Fr):=(fr.scope.names.lookup ("answers_in":Str)).isSome
def dD (fr:Fr)(b:List (Option Expr))(vs:List Expr)(σ:AC)(k:DK):Prop:=
 Bool.rec (As (rX b vs) (UO ih fr b vs (σ++[some (.sdict [])]) λes a=>As (dC (es.map (·.1))) (Db a σ.length λo=>AD (X9 o) λe0=>As e0.isEmpty (k (.ref σ.length) (a.set σ.length (some (.sdict es)))))))
  (Bool.rec (k (.ref σ.length) (σ++[some (.idict [])])) (k (.ref σ.length) (σ++[some (.sdict [])])) (xI fr)) (b.isEmpty&&vs.isEmpty)
def oQ (fr:Fr)(es:List Expr)(σ:AC)(k:DK):=As (Cq es) (ih fr (.es es) σ λ(vs:List AV) σ=>KC vs.length (k (.ref σ.length) (σ++[some (.list vs)])))
end
section
variable {ih:Ih}{S:St}{m:Nat}{A:Around}{fr:Fr}{env:Env}{c:At S}
def HQ (e:X9 o=some x):o=.sdict x:=by
 show Ap (p:=λx=>o=.sdict x) ?_ e;cases o<;>trivial
theorem AL.sdict {P}{W}{γ}{h}{a}{es}(r:AL P W γ h (.sdict es) a):∃kvs,By γ h es kvs/\h.DictOf (strKind P W) a kvs:=
 Bj r λZ Z ho k rs=>AH k λkvs e q=>⟨kvs,⟨e.1,e.2▸rs⟩,q h a ho⟩
theorem AL.ofSdict {P}{W}{γ}{h}{a}{es}{kvs}(r:By γ h es kvs)(hd:h.DictOf (strKind P W) a kvs):AL P W γ h (.sdict es) a:=
 AH (O1 hd) λo ho x=>⟨o,_,ho,⟨kvs,⟨r.1,rfl⟩,x⟩,r.2⟩
def At.newSd (c:At S):=c.alloc {cls:=.type "dict",data:=.dict #[]} (ao:=.sdict []) (.ofSdict (kvs:=[]) ⟨rfl,rfl⟩ (Heap.DictOf.new c.h))
def YA (G:Good S m ih)(hr:Ay A m){pos}{E}{j}:∀ {vs:List Expr} {c:At S} (_:AR c.γ fr env) {k:List (Str×AV)->AC->Prop} (_:UO ih fr j vs c.σ k) {Q:List (Value×Value)->Shared->Prop},
 (∀es (c':At S) ps,k es c'.σ->c.le c'->allStrKeys ps->By c'.γ c'.h es (strPairs ps)->Q ps c'.s)->wpAny S.mdl A (evalPairs (pairTrees j vs env pos)) Q E c.s:=by
 induction j with
 |nil=>
  intro vs c g k h Q q;cases vs with
  |nil=>show pairTrees_nil_walk (q [] c [] h (.refl c) rfl ⟨rfl,rfl⟩)
  |cons=>show h.elim
 |cons x j d=>
  intro vs c g k h Q q;show AA h λx e h=>?_;cases vs with
  |nil=>show h.elim
  |cons v vs=>
   subst e;show pairTrees_cons_walk (G.two hr g h λa b c1 r u h1 l1 i l f=>AA h1 λs es h1=>Gx es i λt=>d f h1 λes n ps o l2 hk p=>?_);show q _ n _ o (l1.trans l2) hk (p.cons (x:=(s,b)) (l2.vr l))
def RU:∀ {l:List Str},dC l->l.Nodup:=by
 intro l
 induction l with
 |nil=>show λZ=>List.nodup_nil
 |cons x l ih=>
  intro h;have h1:=aL h;have a:=aR h;show List.nodup_cons.mpr ⟨λm=>?_,ih a⟩;rw[LK.mpr m] at h1;ext h1
def dE (G:Good S m ih)(hr:Ay A m)(p:AR c.γ fr env){j}{vs}{pos}{k}(h:dD ih fr j vs c.σ k):WV A c (eval (.Dict j vs pos) env) k:=by
 intro E Q q;unfold dD at h;cases e:j.isEmpty&&vs.isEmpty with
 |true=>
  rw[e] at h;have h1:=aL e;have a:=aR e;cases NU.mp h1;cases NU.mp a;cases z:xI fr with
  |false=>rw[z] at h;show wpAny_Dict_empty (q _ c.newDict _ h (c.le_alloc ..) ⟨_,rfl,c.new_ref _⟩)
  |true=>rw[z] at h;show wpAny_Dict_empty (q _ c.newSd _ h (c.le_alloc ..) ⟨_,rfl,c.new_ref _⟩)
 |false=>
  rw[e] at h;show AG h λhk h=>?_;have i:=aL hk;have hb:=aR hk;have h1:=aL i;have a:=aR i;have h3:=aL hb;have s:=aR hb;have l0:c.le c.newSd:=c.le_alloc ..;show wpAny_Dict_walk (knd:=strKind S.prog S.w) h1 (LJ a) (λz=>by subst z;ext h3) (DF s) (YA (c:=c.newSd) G hr (p.at l0) h λes c1 ps h1 l1 hk l=>AG h1 λhn h1=>BM h1 λo n h1=>AA h1 λe0 t h1=>AG h1 λhz h1=>?_);have d:c1.γ[c.σ.length]?=some c.h.objs.size:=l1.pre.get (c.new_ref _);have r:=c1.R.cells _ _ _ n d;rw[HQ t,NU.mp hz] at r;show AH r.sdict λkvs f hd=>?_;cases f.nil;show display_done_str hk (l.1▸RU hn) hd λh' g u=>q _ (c1.put _ n d (λb o ne e=>(u.2 b ne).trans e) λZ q tk=>by ext q;show .ofSdict (l.mono (.refl _) tk) g) _ h1 ((l0.trans l1).trans (c1.le_put ..)) ⟨_,rfl,d⟩
theorem dF (G:Good S m ih)(hr:Ay A m)(a:AR c.γ fr env){es}{pos}{k}(h:oQ ih fr es c.σ k):WV A c (eval (.List es pos) env) k:=
 AG h λhn h E Q q=>An (Sh (An (G.evs hr a h _ _ λas c1 vs h1 l1 rs=>jM (q _ (c1.newList (o:=.list as) (its:=vs.toArray) rfl rs) _ (BF h1).2 (l1.trans (c1.le_new ..)) ⟨_,rfl,c1.new_ref _⟩)
  (by change vs.toArray.size<=sizeLine;rw[List.size_toArray,<-rs.length,KY];have:=(BF h1).1;lia))))
end
def rY (ts:List Expr)(v:Expr):Option (Str×Pos):=Br (one ts) λt=>match t with|.Name y p=>Bool.rec (some (y,p)) none (Ct v)|_=>none
section
variable (T:Hj)(Z:Jd)(ih:Ih)
def oR (n:Nat)(fr:Fr)(x:Expr)(σ:AC)(k:DK):Prop:=match x with|.ListComp a b c d=>ME ih fr (.ListComp a b c d) σ k|.DictComp a b c d e=>ME ih fr (.DictComp a b c d e) σ k|.Call a b c d=>cj T Z ih n fr a b c d σ k|.List a _=>oQ ih fr a σ k|.Dict a b _=>dD ih fr a b σ k|x=>oF T ih fr x σ k
def IP (fr:Fr)(x:Stmt)(σ:AC)(k:FV->AC->Prop):Prop:=match x with|.Assign ts v p=>AW (rY ts v) (λy=>MF ih fr v y.1 y.2.line σ (k .next)) (cX ih fr (.Assign ts v p) σ k)|x=>cX ih fr x σ k
def oS (n:Nat)(fr:Fr)(it:Fk)(σ:AC)(k:Nu it->AC->Prop):Prop:=match it,k with|.e x,k=>oR T Z ih n fr x σ k|.es xs,k=>cR ih fr xs σ k|.t x,k=>stepT ih fr x σ k|.ss l,k=>cY ih fr l σ k|.s1 x,k=>IP ih fr x σ k|.asg t a,k=>WE T ih fr t a σ k|.asgs ts as,k=>RA ih fr ts as σ k|.wl t b o,k=>T6 ih (λσ=>ih fr (.wl t b o) σ k) fr t b o σ k|.fl t i b o,k=>T8 ih (λσ=>ih fr (.fl t i b o) σ k) fr t i b o σ k|.cl e d i a,k=>UJ ih (λσ=>ih fr (.cl e d i a) σ k) fr e d i a σ k|.call f as,k=>RH T Z ih (n+1) fr f as σ k
def step (n:Nat):=λfr it σ k=>AW (Z.lp it) (λf=>f ih fr σ k) (oS T Z ih n fr it σ k)
end
def run (T:Hj)(Z:Jd)(n:Nat):Ih:=match n with|0=>λY Y Y Y=>False|n+1=>step T Z (run T Z n) n
section
variable {T:Hj}{Z:Jd}{ih:Ih}{K:Frag}{S:St}{m:Nat}{A:Around}{fr:Fr}{env:Env}{c:At S}
def dG (H:BX K S T)(b:CB K S Z)(G:Good S m ih)(hr:Ay A m)(h1:Ay A 1)(a:AR c.γ fr env){x}{k}(h:oR T Z ih m fr x c.σ k):WV A c (eval x env) k:=by
 have d:A.units+11<cLine:=by have:=h1.units;lia
 cases x with
 |ListComp=>show KN G hr a h
 |DictComp=>show KN G hr a h
 |Call=>show X5 H b G hr h1 a h
 |List=>show dF G hr a h
 |Dict=>show dE G hr a h
 |_=>show cQ H G hr d a h
def Jg (G:Good S m ih)(hr:Ay A m)(a:AR c.γ fr env){x}{k}(h:IP ih fr x c.σ k):W At.FR A c (exec x env) k:=by
 cases x with
 |Assign ts v p=>
  show AE h (λy e h=>AI e λt e1 d=>?_) λh=>RF G hr a h;show(L3 e1)▸?_;cases t with
  |Name z f=>
   show DN (b:=Ct v) d (λZ q=>nomatch q) λq=>?_;ext q;show NE G hr a h
  |_=>ext d
 |_=>show RF G hr a h
def dH (H:BX K S T)(p:CB K S Z)(G:Good S m ih)(hr:Ay A (m+1)){it}{k:Nu it->AC->Prop}(h:oS T Z ih m fr it c.σ k):NB A fr c it k:=by
 have g:Ay A m:=hr.le (Nat.le_succ m);have h1:Ay A 1:=hr.le (my (QQ m));have q:A.units+11<cLine:=by have:=h1.units;lia
 cases it with
 |e x=>show λenv j=>dG H p G g h1 j h
 |es xs=>show λenv j pos=>Xy G g j h
 |t x=>show λenv j=>cS G g q j h
 |ss l=>show λenv j=>X0 G g j h
 |s1 x=>show λenv j=>Jg G g j h
 |asg t a=>show λenv j v n=>UA H G g j n h
 |asgs ts as=>show λenv j vs n=>RB G g j n h
 |wl t b o=>show(Nv (N:=c.σ.length) G g (λc' h'=>(NB.toL (G fr (.wl t b o) k c' h' A g)).imp λY l=>l.toN _) h).imp λY l=>l.all
 |fl t i b o=>show(Nx (N:=c.σ.length) G g (λc' h'=>(NB.toL (G fr (.fl t i b o) k c' h' A g)).imp λY l=>l.toN _) h).imp λY l=>l.all
 |cl e d i a=>show(N1 (N:=c.σ.length) G g (λc' h'=>(NB.toL (G fr (.cl e d i a) k c' h' A g)).imp λY l=>l.toN _) h).imp λY l=>l.all
 |call f as=>show λr vs rf rs=>RI H p G hr rf rs h
def Eu (H:BX K S T)(a:CB K S Z) n:Good S n (run T Z n):=by
 induction n with
 |zero=>show λY Y Y Y h=>h.elim
 |succ n ih=>show λfr it k c h A hr=>AE h (λf e h=>a.lp it f e n _ ih A (hr.le (Nat.le_succ n)) fr k c h) λh=>dH H a ih hr h
end
section
variable {prog:Program}{w:World}{K:Type} [DecidableEq K] {knd:PySem.KeyKind prog w K}{A:Around}{E:F3}{s:Shared}{k:K}{key:Value}{d:Addr}
def Jh {kvs:List (K×Value)}{dflt}{Q}(c:knd.is k key)(r:(d==sysModules)=false)(hm:s.heap.DictOf knd d kvs)(x:kvs.length<=sizeLine)
 (h1:∀v,valueAt kvs k=some v->Q v {s with toks:=s.toks+1})
 (t:valueAt kvs k=none->∀h',h'.DictOf knd d (stored kvs k dflt)->Heap.SameBut d s.heap h'->Q dflt {s with heap:=h',toks:=s.toks+1}) (j:argsOk "dict.setdefault" ⟨[.ref d,key,dflt],[]⟩):
   wpAny (model prog w) A (PySem.call (.builtin "dict.setdefault") [.ref d,key,dflt]) Q E s:=by
  show uM PySem.F.slot_dict_setdefault hm.typeIs PySem.F.entry_dict_setdefault ?_ j;unfold Builtin.«dict.setdefault»;show An ?_;unfold Builtin.Dict.keyAndDefault;show An (wpAny_notOrdered_dict hm.typeIs ?_);change wpAny _ _ (pure (d,key,some dflt)) _ _ s;show B9 ?_;change wpAny _ _ (if (d==sysModules)=true then _ else (dictSetDefault d key dflt>>=_)) _ _ s;rw[if_neg (by show(r)▸?_;show mw)];show An ?_;have hz:s.heap.DictLe d sizeLine:=by
   show px hm λo es u ho hc hd hk hp hn=>?_;intro z es' ep' p q;rw[ho] at p;ext p;rw[hd] at q;ext q;have e1:=hp.length;have B:es.toList.length=es.size:=by simp
   lia
  cases hv:valueAt kvs k with
  |some v=>show wpAny_dictSetDefault_of (hz:=hz) c hm.mapOf (λv' e=>B9 ⟨v',rfl,h1 v' e⟩) (λhn=>by rw[hv] at hn;ext hn)
  |none=>
   have t:=t hv;show px hm λo es u ho hc hd hk hp hn=>?_;have hf:(valueAt kvs) k=none:=hv;unfold dictSetDefault;show QK ?_;show An (knd.pyHash c ?_);show An (wpAny_dictFind_of (s:={s with toks:=s.toks+1}) c ho hd hk ?_);have f:(es.findIdx? λe=>knd.is k e.key)=kvs.findIdx? λm=>decide (m.1=k):=by
    rw[<-hp.findIdx k];obtain⟨l⟩:=es;simp
   cases hi:es.findIdx? λe=>knd.is k e.key with
   |some i=>
    exfalso
    have:=any_of_findIdx_some (f▸hi);rw[List.any_eq_true] at this;show AH this λm n he=>?_;unfold valueAt at hv;rw[Option.map_eq_none_iff,List.find?_eq_none] at hv;show hv m n he
   |none=>
    have g:k ∉ kvs.map (·.1):=not_mem_of_findIdx_none (f▸hi);have h:¬(kvs.any λm=>decide (m.1=k)):=by
     rw[List.any_eq_true];rintro⟨m,n,he⟩;show g (Zs.mpr ⟨m,n,AAL he⟩)
    show An (wpAny_rule (An (wpAny_updateDictKeys (hz:=hz _ _ _ ho hd) (s:={s with toks:=s.toks+1}) ho hd (B9 (B9 ⟨_,rfl,t _ ⟨_,_,u+1,uk _ ho (Obj.isFreed_of_dict (Obj.data_mapDictKeys hd _)),
     hc.mapDictKeys _,Obj.data_mapDictKeys hd _,hk.push c _,?_,?_⟩ (pn ..)⟩)))))
    · rw[stored,if_neg h];have:=hp.append c (knd.hash k) dflt;obtain⟨l⟩:=es
      simpa using this
    · rw[stored,if_neg h,Zf,List.nodup_append];show⟨hn,by simp,?_⟩;intro a y b hb;simp only[Zg,List.map_nil,Vo] at hb;subst hb;show λe=>g (e▸y)
def UQ {kvs:List (K×Value)}{dflt}{Q}(c:knd.is k key)(a:(keyPart key).isSome)(hm:s.heap.DictOf knd d kvs)(hv:valueAt kvs k=none)
 (h:Q dflt {s with toks:=s.toks+1}) (f:(d==sysModules)=false) (b:argsOk "dict.pop" ⟨[.ref d,key,dflt],[]⟩):wpAny (model prog w) A (PySem.call (.builtin "dict.pop") [.ref d,key,dflt]) Q E s:=by
  show uM PySem.F.slot_dict_pop hm.typeIs PySem.F.entry_dict_pop ?_ b;unfold Builtin.«dict.pop»;show An ?_;unfold Builtin.Dict.keyAndDefault;show An (wpAny_notOrdered_dict hm.typeIs ?_);change wpAny _ _ (pure (d,key,some dflt)) _ _ s;show B9 ?_;dsimp only;rw[if_pos a];show An (B9 ?_);rw[if_neg mw];show An (wpAny_takeOut_pairs_none c hm hv ?_);rw[if_pos Option.isNone_none];show An ?_;unfold Builtin.Dict.missedRemoval;have e:∀(t:Sem Unit),(if (d==sysModules)=true then t else pure ())=pure ():=λt=>by show(f)▸?_;rfl
  rw[e];show B9 (An (wpAny_rule (B9 ⟨_,rfl,h⟩)))
end
section
variable {prog:Program}{w:World}{K:Type} [DecidableEq K] {knd:PySem.KeyKind prog w K}{A:Around}{E:F3}{s:Shared}{d:Addr}
def Ji:splitId "dict.__len__"=some ("dict","__len__"):=by decide+kernel
def PC (L:A.handled=none)(B:(d==sysModules)=false)(hd:s.heap.DictOf knd d kvs)(hn:kvs.length<=sizeLine)
 (M:∀(h':Heap) (tk:Nat) (acc:List Value),(∀b o,s.heap.get? b=some o->h'.get? b=some o)->acc.length=kvs.length->(∀(j:Nat) v,acc[j]?=some v->∃k x,kvs[j]?=some (k,x)/\knd.is k v)->Q acc {s with heap:=h',toks:=tk}):
 wpAny (model prog w) A (collect (.ref d)) Q E s:=by
 obtain⟨c,p⟩:=hd.dictAt;have r:d<s.heap.objs.size:=by show Hi p λo es ho Z=>?_;show Oh ho
 unfold collect;show An (wpAny_runValue (codeAny_builtin PySem.F.entry_proto_collect ?_));show(Around.under_plainId PySem.F.plain_proto_collect _)▸?_;change wpAny _ A.in1 (newList []>>=λl=>again (.builtin "list.__iadd__" ⟨[l,.ref d],[]⟩)) _ _ s;show An (jM ?_);show B9 ⟨plainId_quiet PySem.F.plain_list_iadd _,codeAny_builtin PySem.F.entry_list_iadd ?_⟩;show(Around.under_plainId PySem.F.plain_list_iadd _)▸?_;have q:(s.heap.push Qh).get? s.heap.objs.size=some Qh:=J6 _ rfl;have t:s.heap.objs.size≠d:=Nat.ne_of_gt r;have h1:Builtin.List.listSameRef (.ref s.heap.objs.size) (.ref d)=false:=by simp[Builtin.List.listSameRef,t]
 change wpAny _ A.in1 (Builtin.List.listExtendWith (.ref s.heap.objs.size) (.ref d) (.ref s.heap.objs.size)) _ _ _;unfold Builtin.List.listExtendWith;have f:=hd.push Qh;have m:(s.heap.push Qh).DictAt knd d kvs c:=p.at' λo e=>JQ _ e;show An (wpAny_typeOf (s:={s with heap:=s.heap.push Qh}) f.typeIs ?_);rw[if_neg (by show(h1)▸?_;decide)];show An (wpAny_pyIter_dict (s:={s with heap:=s.heap.push Qh}) B m ?_);have u:(s.heap.push Qh).objs.size=s.heap.objs.size+1:=pu ..;have a:=f.push {cls:=.type "dict_keyiterator",data:=.fields #[.ref d,.int 0 0,.int kvs.length 0,.int c 0]};show An (QK ?_);unfold Builtin.List.listLengthHint;show An (wpAny_specialOf (s:={s with heap:=(s.heap.push Qh).push {cls:=.type "dict_keyiterator",data:=.fields #[.ref d,.int 0 0,.int kvs.length 0,.int c 0]}}) a.typeIs PySem.F.slot_dict_len.lookup ?_);dsimp only;rw[Ji];show An (wpAny_isInstance (b:=true) (s:={s with heap:=(s.heap.push Qh).push {cls:=.type "dict_keyiterator",data:=.fields #[.ref d,.int 0 0,.int kvs.length 0,.int c 0]}}) a.typeIs isSubtype_dict_dict ?_);rw[if_neg ∅];rw[if_pos (by decide+kernel)];show An (wpAny_typeOf (s:={s with heap:=(s.heap.push Qh).push {cls:=.type "dict_keyiterator",data:=.fields #[.ref d,.int 0 0,.int kvs.length 0,.int c 0]}}) a.typeIs (B9 ?_));rw[if_pos (by decide+kernel)];show An (wpAny_rule ?_);have g:((s.heap.push Qh).push {cls:=.type "dict_keyiterator",data:=.fields #[.ref d,.int 0 0,.int kvs.length 0,.int c 0]}).get? s.heap.objs.size=some Qh:=JQ _ q;show An ?_;change wpAny _ A.in1 (updateSeq s.heap.objs.size (·.push .none)>>=λZ=>updateSeq s.heap.objs.size (·.pop)) _ _ _;show An (wpAny_updateSeq g rfl ?_);have h:=uk (Obj.mapSeq (·.push Value.none)) g rfl;show wpAny_updateSeq h rfl ?_;have i:=uk (Obj.mapSeq (·.pop)) h rfl
 generalize N:((((s.heap.push Qh).push {cls:=.type "dict_keyiterator",data:=.fields #[.ref d,.int 0 0,.int kvs.length 0,.int c 0]}).update s.heap.objs.size (Obj.mapSeq (·.push Value.none))).update s.heap.objs.size (Obj.mapSeq (·.pop)))=H at i ⊢
 show(u)▸?_;have y:∀b o,b≠s.heap.objs.size->((s.heap.push Qh).push {cls:=.type "dict_keyiterator",data:=.fields #[.ref d,.int 0 0,.int kvs.length 0,.int c 0]}).get? b=some o->H.get? b=some o:=λb o hb e=>by
  rw[<-N];show(Heap.get?_update_other _ _ (Ne.symm hb)).trans ((Heap.get?_update_other _ _ (Ne.symm hb)).trans e)
 have W:=(Walks.dictKeys (prog:=prog) (w:=w) (knd:=knd) (A:=A.in1) L (s.heap.objs.size+1) d (Nat.ne_of_lt (Nat.lt_succ_of_lt r)) kvs c).toS;have O:H.get? (s.heap.objs.size+1)=some {cls:=.type "dict_keyiterator",data:=.fields #[.ref d,.int 0 0,.int kvs.length 0,.int c 0]}:=by
  show y _ _ (Nat.succ_ne_self _) ?_;rw[<-u];show J6 _ rfl
 have hold:∀b o,s.heap.get? b=some o->H.get? b=some o:=λb o e=>y b o (Nat.ne_of_lt (Oh e)) (JQ _ (JQ _ e));have C:H.IsKeyIter (s.heap.objs.size+1) d 0 kvs.length c/\H.DictAt knd d kvs c:=⟨⟨_,O,rfl,rfl⟩,p.at' (hold d)⟩
 have D:s.heap.objs.size ∉ [s.heap.objs.size+1,d]:=by
  intro hm
  rcases QP.mp hm with e|hm
  · show absurd e.symm (Nat.succ_ne_self _)
  · show t (Vo.mp hm)
 show B9 ⟨plainId_quiet PySem.F.plain_extend_loop _,codeAny_extend_loopS W hn _ D _ kvs.length 0 {s with heap:=H} _ _ rfl (QQ _) C i (ItemsOf.nil _) λs' z c' hm F n=>?_⟩;change wpAny _ A (load s.heap.objs.size>>=_) _ _ s';show An (wpAny_load F (B9 ?_));obtain⟨G,P,R,I,S⟩:=s';have e1:=hm.gens;have J:=hm.drawn;have K:=hm.os;dsimp only at e1 J K;subst e1 J K;show M G I z.toList (λb o e=>?_) (by show(Ej)▸?_;show n.1) λj v hv=>n.2 j v (by simpa using hv);show hm.heap b o ?_ (hold b o e);intro hmem;have hb:=Oh e
 rcases QP.mp hmem with rfl|hmem
 · show Zq _ hb
 · rw[Vo.mp hmem] at hb;show Zq _ (Nat.lt_of_succ_lt hb)
end
def N2:List Int->Option (List Int)|[]=>some []|[a]=>some [a]|[a,b]=>some (if a<=b then[a,b] else[b,a])|_=>none
def PD:List Int->Option Int|[]=>none|a::r=>match PD r with|none=>some a|some m=>some (if a<=m then a else m)
set_option tactic.hygienic true in
def dI {ns j r}(h:N2 ns=some r)(p:j.Perm ns)(q:j.Pairwise (· <= ·)):j=r:=by
 unfold N2 at h
 split at h
 · ext h;show p.eq_nil
 · ext h;show p.eq_singleton
 · rename_i a b
   ext h;have hl:j.length=2:=by show(p.length_eq)▸?_;rfl
   match j,hl,p,q with
   |[x,y],_,p,q=>
     have c:x<=y:=by
      rw[List.pairwise_cons] at q;show q.1 y (by simp)
     have m1:x∈[a,b]:=p.mem_iff.mp (by simp);have d:y∈[a,b]:=p.mem_iff.mp (by simp);have f:a∈[x,y]:=p.mem_iff.mpr (by simp);have g:b∈[x,y]:=p.mem_iff.mpr (by simp);simp only[QP,List.not_mem_nil,or_false] at m1 d f g
     split<;>(simp only[List.cons.injEq,and_true];lia)
 · ext h
set_option tactic.hygienic true in
theorem N3:∀ {l:List Int} {m:Int},PD l=some m->m∈l/\∀x∈l,m<=x
 |[],m,h=>by ext h
 |a::r,m,h=>by
  unfold PD at h
  split at h
  · rename_i e
    ext h;cases r with
    |nil=>simp
    |cons b r=>unfold PD at e;split at e<;>ext e
  · rename_i m' e
    obtain⟨h1,j⟩:=N3 e;ext h
    split
    · show⟨by simp,λx hx=>?_⟩
      rcases QP.mp hx with rfl|hx
      · show Int.le_refl _
      · show Int.le_trans ‹_› (j x hx)
    · show⟨Zo _ h1,λx hx=>?_⟩
      rcases QP.mp hx with rfl|hx
      · lia
      · show j x hx
section
variable {prog:Program}{w:World}{A:Around}{E:F3}{s:Shared}{d:Addr}
def RV (u:A.handled=none)(m:(d==sysModules)=false)(hd:s.heap.DictOf (intKind prog w) d kvs)(hn:kvs.length<64)
 (y:∀(h' g:Heap) (tk:Nat) (out:Array Value) (c:List Int) (e:Nat),(∀b o,s.heap.get? b=some o->h'.get? b=some o)->(∀b o,h'.get? b=some o->g.get? b=some o)->
   g.get? h'.objs.size=some (seqObj "list" out e)->IntsAre out.toList c->c.Perm (kvs.map (·.1))->c.Pairwise (· <= ·)->Q (.ref h'.objs.size) {s with heap:=g,toks:=tk}):
 wpAny (model prog w) A (PySem.call (.builtin "sorted") [.ref d]) Q E s:=by
 show Calls.call_function_entry PyProof.Rows.kind_sorted PyProof.Rows.plain_sorted PyProof.Rows.entry_sorted (PyProof.Rows.args_sorted1 _) ?_;unfold Builtin.«sorted»;show An (wpAny_of_eq (a:=()) (by rfl) ?_);show An (PC u m hd (by show(KY)▸?_;lia) λh' tk acc z f l=>?_);have B:IntsAre acc (kvs.map (·.1)):=by
  have go:∀(acc:List Value) (kvs:List (Int×Value)),acc.length=kvs.length->(∀(j:Nat) v,acc[j]?=some v->∃k x,kvs[j]?=some (k,x)/\(intKind prog w).is k v)->IntsAre acc (kvs.map (·.1)):=by
   intro acc
   induction acc with
   |nil=>intro kvs hl _;cases kvs with|nil=>show .nil|cons _ _=>ext hl
   |cons v acc ih=>
    intro kvs hl r;cases kvs with
    |nil=>ext hl
    |cons p kvs=>
     show Hi (r 0 v rfl) λk x e1 C=>?_;simp at e1;subst e1;obtain⟨t,rfl⟩:=Value.isInt_shape (show Value.isInt k v=true from C);show .cons k t (ih kvs (by simpa using hl) λj v' D=>by
      have:=r (j+1) v' (by simpa using D)
      simpa using this)
  show go acc kvs f l
 show An (wpAny_newList ?_);have i:(h'.push (seqObj "list" acc.toArray 0)).get? h'.objs.size=some (seqObj "list" acc.toArray 0):=J6 _ rfl;change wpAny _ _ _ _ _ {s with heap:=h'.push (seqObj "list" acc.toArray 0),toks:=tk};show An (QK (uM slot_list_sort (s:={s with heap:=h'.push (seqObj "list" acc.toArray 0),toks:=tk}) ⟨_,i,rfl⟩ PyProof.Rows.entry_list_sort (list_sort_tree i B (by rw[f];show hn) λout c a1 F G=>⟨_,rfl,?_⟩) (PyProof.Rows.args_list_sort _)));obtain⟨e,he⟩:=sortedHeap_at (h:=h'.push (seqObj "list" acc.toArray 0)) (a:=h'.objs.size) (vs:=acc) (n:=0) (out:=out) i;show B9 ⟨_,rfl,y h' _ tk out c e z (λb o q=>?_) he a1 F G⟩;rw[sortedHeap_old (Nat.ne_of_lt (Oh q)) (by rw[pu];show Nat.lt_succ_of_lt (Oh q))];show JQ _ q
end
section
variable {prog:Program}{w:World}{A:Around}{E:F3}{s:Shared}{d:Addr}
def dJ {kvs}{m}{Q}(y:A.handled=none)(l:(d==sysModules)=false)(hd:s.heap.DictOf (intKind prog w) d kvs)(hm:PD (kvs.map (·.1))=some m)
 (z:∀(h':Heap) (tk:Nat) (t:Tok),(∀b o,s.heap.get? b=some o->h'.get? b=some o)->Q (.int m t) {s with heap:=h',toks:=tk}):
   wpAny (model prog w) A (PySem.call (.builtin "min") [.ref d]) Q E s:=by
  obtain⟨n,c⟩:=hd.dictAt;have f:d<s.heap.objs.size:=by obtain⟨o,es,ho,_⟩:=c;show Oh ho
  have g:0<kvs.length:=by
   cases kvs with
   |nil=>ext hm
   |cons _ _=>show Nat.succ_pos _
  show call_min_walk (wpAny_pyIter_dict l c ?_);have B:(s.heap.push {cls:=.type "dict_keyiterator",data:=.fields #[.ref d,.int 0 0,.int kvs.length 0,.int n 0]}).IsKeyIter s.heap.objs.size d 0 kvs.length n:=⟨_,J6 _ rfl,rfl,rfl⟩
  have a:∀i v,(∃k x,kvs[i]?=some (k,x)/\(intKind prog w).is k v)->∃t,v=.int ((kvs.map (·.1)).getD i 0) t:=by
   rintro i v ⟨k,x,e1,C⟩
   obtain⟨t,rfl⟩:=Value.isInt_shape (show Value.isInt k v=true from C);show⟨t,by simp[List.getD,e1]⟩
  show⟨_,[s.heap.objs.size,d],[s.heap.objs.size],_,_,_,_,rfl,Walks.dictKeys (prog:=prog) (w:=w) (knd:=intKind prog w) (A:=A.in1) y s.heap.objs.size d (Nat.ne_of_lt f) kvs n,⟨B,c.at' λo e=>JQ _ e⟩,λb hb=>?_,g,
   CmpOf.ints_lt (λi=>(kvs.map (·.1)).getD i 0) a,λv h' tk D hk=>?_⟩
  · change b<(s.heap.push _).objs.size;rw[pu]
    rcases QP.mp hb with rfl|hb
    · show Nat.lt_succ_self _
    · rw[Vo.mp hb];show Nat.lt_succ_of_lt f
  · obtain⟨t,rfl⟩:=a _ _ D;obtain⟨b1,F⟩:=argBest_lt (λi=>(kvs.map (·.1)).getD i 0) (kvs.length-1);obtain⟨c1,G⟩:=N3 hm;have e:(kvs.map (·.1)).getD (argBest (λi j=>decide ((kvs.map (·.1)).getD i 0<(kvs.map (·.1)).getD j 0)) (kvs.length-1)) 0=m:=by
     obtain⟨j,u,p⟩:=List.mem_iff_getElem.mp c1;have h:j<kvs.length:=by simpa using u
     have l1:=F j (Nat.le_sub_one_of_lt h);have q:(kvs.map (·.1)).getD j 0=m:=by rw[NS,FA u];show p
     rw[q] at l1;have l2:(kvs.map (·.1)).getD (argBest (λi j=>decide ((kvs.map (·.1)).getD i 0<(kvs.map (·.1)).getD j 0)) (kvs.length-1)) 0∈kvs.map (·.1):=by
      have hb:argBest (λi j=>decide ((kvs.map (·.1)).getD i 0<(kvs.map (·.1)).getD j 0)) (kvs.length-1)<(kvs.map (·.1)).length:=by rw[Ei];show jN b1 (Nat.sub_lt (Nat.zero_lt_of_lt h) Nat.one_pos)
      rw[NS,FA hb];show Zu hb
     have l3:=G _ l2
     omega
    rw[e];show z h' tk t λb o r=>hk b o (λhm=>?_) (JQ _ r);rw[Vo.mp hm] at r;show Zq _ (Oh r)
end
def Hv:List Int->Prop|[]=>True|i::r=>small i/\Hv r
def Hv.take {l}(h:Hv l):∀j,Hv (l.take j):=by
 induction l with
 |nil=>intro j;simp[Hv]
 |cons i r ih=>
  intro j;cases j with
  |zero=>simp[Hv]
  |succ j=>show(List.take_succ_cons)▸?_;show⟨h.1,ih h.2 j⟩
def Hv.sum {l}(h:Hv l): -(1073741824 * (l.length:Int))<=l.sum/\l.sum<=1073741824 * (l.length:Int):=by
 induction l with
 |nil=>simp
 |cons i r ih=>
  have:=ih h.2;have h1:=h.1.1;have a:=h.1.2;rw[List.sum_cons,Zh];lia
def Hv.get {l}(h:Hv l):∀j,small (l.getD j 0):=by
 induction l with
 |nil=>intro j;show(⟨∅,∅⟩:small 0)
 |cons i r ih=>
  intro j;cases j with
  |zero=>show h.1
  |succ j=>show ih h.2 j
section
variable {prog:Program}{w:World}{A:Around}{E:F3}{s:Shared}
def NF {Q}{r:Addr}{a b c:Int}{t u v:Tok}{n:Nat}(k:A.handled=none)(hr:IsRange s.heap r a b c t u v)(g:Builtin.Range.small a b c)
 (hn:Builtin.Range.rangeSize a b c=n) (j:n<=2 ^ 24)
 (m:∀h' tk acc,(∀b o,s.heap.get? b=some o->h'.get? b=some o)->ItemsOf (λi v=>∃t,v=.int (a+i * c) t) acc n->Q acc.toList {s with heap:=h',toks:=tk}):wpAny (model prog w) A (collect (.ref r)) Q E s:=by
  have key:∀R:Result->Shared->Prop,(∀h' tk d c',(∀b o,s.heap.get? b=some o->h'.get? b=some o)->h'.get? s.heap.objs.size=some {cls:=.type "list",dict:=none,data:=.seq d c',slots:= #[]}->
   ItemsOf (λi v=>∃t,v=.int (a+i * c) t) d n->R (.ok (.ret (.ref s.heap.objs.size))) {s with heap:=h',toks:=tk})->codeAny (model prog w) A (.builtin "proto.collect" ⟨[.ref r],[]⟩) R s:=by
   intro R p;show codeAny_builtin F.entry_proto_collect ?_;show(Around.under_plainId F.plain_proto_collect _)▸?_;change wpAny _ A.in1 (newList []>>=λl=>again (.builtin "list.__iadd__" ⟨[l,.ref r],[]⟩)) _ _ s;show An (jM ?_);show B9 ⟨plainId_quiet F.plain_list_iadd _,codeAny_builtin F.entry_list_iadd ?_⟩;show(Around.under_plainId F.plain_list_iadd _)▸?_;have hS:(s.heap.push Qh).get? s.heap.objs.size=some Qh:=J6 _ rfl;show wpAny_extend_range (R:=R) (s:={s with heap:=s.heap.push Qh}) k (JQ _ hr) g hn j s.heap.objs.size (.ref s.heap.objs.size) 0 hS λh' tk d c' hk h f=>p h' tk d c' (λb o e=>hk b o (Nat.ne_of_lt (Oh e)) (JQ _ e)) h f
  unfold collect;show An (wpAny_runValue (key _ λh' tk d c' hk h f=>?_));change wpAny _ A (load s.heap.objs.size>>=_) _ _ _;show An (wpAny_load h ?_);show B9 (m h' tk d hk f)
theorem MJ (r:Addr)(a b c:Int)(t u v:Tok)(n:Nat)(d:Builtin.Range.small a b c)(hn:Builtin.Range.rangeSize a b c=n)(g:n<=1000):
 Meets (Builtin.«tuple.__new__» ⟨[.type "tuple",.ref r],[]⟩)
  (λA R s=>A.handled=none/\IsRange s.heap r a b c t u v/\∀(h':Heap) (tk:Nat) (acc:Array Value),(∀b o,s.heap.get? b=some o->h'.get? b=some o)->ItemsOf (λi v=>∃t,v=.int (a+i * c) t) acc n->
    R (.ok (.ret (.ref h'.objs.size))) {s with heap:=h'.push {cls:=.type "tuple",data:=.seq acc},toks:=tk}):=
 .of_wp λprog w A R s h=>by
  show QR h λm hr h=>?_;have l:=sub_tuple_self;have j:=init_tuple_lookup;have p:=madeHere_tuple;have q:s.TypeIs (.ref r) "range":=⟨_,hr,rfl⟩
  have k:A.in1.handled=none:=m
  wp_walk using wpAny_typeOf q,NF k hr d hn (EX g ∅)
  intro h' tk acc hk f;change wpAny _ _ (Builtin.Tuple.tupleExact acc.toList.toArray>>=λv=>ret v) _ _ _;unfold Builtin.Tuple.tupleExact;show An (jM ?_ (show acc.toList.toArray.size<=sizeLine by simp only[Array.toArray_toList];rw[f.1,KY];lia));show B9 ⟨_,rfl,?_⟩;have e:acc.toList.toArray=acc:=by simp
  show(e)▸?_;show h h' tk acc hk f
theorem Jj {Q}{r:Addr}{a b c:Int}{t u v:Tok}{n:Nat}(j:A.handled=none)(hr:IsRange s.heap r a b c t u v)(d:Builtin.Range.small a b c)
 (hn:Builtin.Range.rangeSize a b c=n) (f:n<=1000)
 (h:∀(h':Heap) (tk:Nat) (acc:Array Value),(∀b o,s.heap.get? b=some o->h'.get? b=some o)->ItemsOf (λi v=>∃t,v=.int (a+i * c) t) acc n->Q (.ref h'.objs.size) {s with heap:=h'.push {cls:=.type "tuple",data:=.seq acc},toks:=tk}):
   wpAny (model prog w) A (call (.type "tuple") [.ref r]) Q E s:=
  callType_new F.called_tuple ∅ (F.typeCall_tuple_1 _) (F.newCall_tuple_1 _) (λobj=>F.args_object_init_2 obj _) F.entry_tuple_new
   (MJ r a b c t u v n d hn f) ⟨j,hr,λh' tk acc hk g=>⟨⟨_,J6 _ rfl,rfl⟩,h h' tk acc hk g⟩⟩
end
def MK (as:List AV)(k:AV->Prop):Prop:=match as with|[a]=>k a|_=>False
def YB (as:List AV)(k:AV->AV->Prop):Prop:=match as with|[a,b]=>k a b|_=>False
def kO (as:List AV)(k:AV->AV->AV->Prop):Prop:=match as with|[a,b,c]=>k a b c|_=>False
def rZ (t:Dt):Bool:=match t with|.tup _=>true|.dom _=>true|.tp _=>true|_=>false
def xJ (n:Nat)(x:Int):List AV:=match n with|0=>[]|n+1=>.d (.int x)::xJ n (x+1)
def dK (a:AV)(σ:AC)(k:DK):Prop:=AW (Ff a) (λt=>As (rZ t) (k (.d t) σ))
 (Cj σ a λZ o=>AW (Lk o) (λxs=>KC xs.length (AD (Hs xs) λl=>k (.d (.tup l)) σ)) (AW (IK o) (λx=>x.2.length<=1000/\k (.d (.tp 1000)) σ)
   (AD (Q6 o) λx=>As (Builtin.Range.small x.1 x.2 1&&(decide (x.1<=x.2)&&Nat.ble (x.2-x.1).toNat 1000)) (AD (Hs (xJ (x.2-x.1).toNat x.1)) λl=>k (.d (.tup l)) σ))))
def listOf (a:AV)(σ:AC)(k:DK):Prop:=AW (Ff a) (λt=>AD (JS t) λl=>KC l.length (k (.ref σ.length) (σ++[some (.list (l.map .d))])))
 (Cj σ a λZ o=>AW (Q6 o) (λx=>As (Builtin.Range.small x.1 x.2 1&&(decide (x.1<=x.2)&&Nat.ble (x.2-x.1).toNat 1000)) (k (.ref σ.length) (σ++[some (.list (xJ (x.2-x.1).toNat x.1))])))
   (bz o none none λo=>k (.ref σ.length) (σ++[some o])))
def dL (as:List AV)(σ:AC)(k:DK):Prop:=match as with|[a]=>AD (Cp a) λn=>k (.ref σ.length) (σ++[some (.rng 0 n)])|[a,b]=>AD (Cp a) λm=>AD (Cp b) λn=>k (.ref σ.length) (σ++[some (.rng m n)])|_=>False
def xK (a:AV)(σ:AC)(k:DK):Prop:=
 AW (Ff a) (λt=>AW (JS t) (λl=>KC l.length (k (.d (.int l.length)) σ)) (AD (KH t) λd=>d.length<=1000/\k (.d (.int d.length)) σ))
  (Cj σ a λZ o=>AW (IK o) (λx=>x.2.length<=1000/\k (.d (.int x.2.length)) σ) (AW (Lk o) (λxs=>KC xs.length (k (.d (.int xs.length)) σ))
    (AW (Iq o) (λes=>KC es.length (k (.d (.int es.length)) σ)) (AD (M9 o) λx=>k (.d (.int (CZ x.1+CZ x.2))) σ))))
def WO (b c:Bool)(k:List Int->Prop):=(b=false->c=false->k [])/\(b->c=false->k [0])/\(b=false->c->k [1])/\(b->c->k [0,1])
def dM (l:List Int):AO:=.list (l.map λi=>.d (.int i))
def WQ (a:AV)(σ:AC)(k:DK):Prop:=Cj σ a λZ o=>
 AW (Iq o) (λes=>AD (N2 (es.map (·.1))) λl=>k (.ref σ.length) (σ++[some (dM l)])) (AD (M9 o) λx=>WO x.1 x.2 λl=>k (.ref σ.length) (σ++[some (dM l)]))
def xL (a:AV)(σ:AC)(k:DK):Prop:=Cj σ a λZ o=>
 AW (Iq o) (λes=>AD (PD (es.map (·.1))) λm=>k (.d (.int m)) σ) (AD (M9 o) λx=>(x.1->k (.d (.int 0)) σ)/\(x.1=false->x.2/\k (.d (.int 1)) σ))
def oT (a:AV)(σ:AC)(k:DK):Prop:=Cj σ a λZ o=>
 AW (Iq o) (λes=>KC es.length (k (.ref σ.length) (σ++[some (.idict es)]))) (AD (M9 o) λx=>k (.ref σ.length) (σ++[some (.iset x.1 x.2)]))
def Az (n:Nat):Bool:=match n with|0=>false|1=>true|2=>false|3=>false|_=>true
def Bg (n:Nat):Int:=match n with|0=>1|1=>1|2=>2|3=>3|_=>2
def oU (o:AO):Option Nat:=match o with
 |.kd w n _ _=>(match w with|.opt=>some n|_=>none)
 |_=>none
def US (d:AV):Option Bool:=Br (Br (Br (Ff d) Zi) vk) id
def UT (n:Nat)(key:Str)(d:AV)(k:AV->Prop):Prop:=
 Bool.rec (Bool.rec (k d) (AD (Cp d) λi=>As (decide (i=1)) (k (.d (.int (Bg n))))) (key==("answers":Str))) (AD (US d) λb=>As (!b) (k (ba (Az n)))) (key==("all":Str))
def oV (a b d:AV)(σ:AC)(k:DK):Prop:=Cj σ a λZ o=>
 AW (Iq o) (λes=>AD (Cp b) λj=>k ((es.lookup j).getD d) σ) (AW (X9 o) (λes=>AD (M8 b) λj=>k ((es.lookup j).getD d) σ) (AD (oU o) λn=>AD (M8 b) λj=>UT n j d λav=>k av σ))
def WR (a b d:AV)(σ:AC)(k:DK):=Cj σ a λc o=>AD (Iq o) λes=>AD (Cp b) λj=>KC es.length (Option.rec (k d (σ.set c (some (.idict (put j d es))))) (λav=>k av σ) (es.lookup j))
def xM (a b d:AV)(σ:AC)(k:DK):Prop:=Cj σ a λc o=>AD (M9 o) λx=>AD (Cp b) λj=>cB j λy=>
 ((Bool.rec x.1 x.2 y:Bool)->k (.d .any) (σ.set c (some (.iset (Bool.rec false x.1 y) (Bool.rec x.2 false y)))))/\((Bool.rec x.1 x.2 y:Bool)=false->k d σ)
def WS (a b:AV)(σ:AC)(k:DK):=Cj σ a λc o=>rW o b λo=>k (.d nn) (σ.set c (some o))
def xN (a:AV)(σ:AC)(k:DK):Prop:=Cj σ a λc o=>
 AW (IK o) (λx=>x.2.length<=1000/\x.2≠[]/\Lp x.1 (x.2.getLastD BY) λav=>k av (σ.set c (some (.tl x.1 x.2.dropLast)))) (AD (Lk o) λxs=>KC xs.length (AD xs.getLast? λav=>k av (σ.set c (some (.list xs.dropLast)))))
def dN (t:Ty)(l:List AV):Option (List El):=match l with|[]=>some []|a::l=>Br (elA t a) λe=>Br (dN t l) λes=>some (e::es)
def xO (o b:AO)(k:AO->Prop):=AW (IK o) (λx=>x.2.length<=1000/\AD (Lk b) λa=>KC a.length (AD (dN x.1 a) λes=>k (.tl x.1 (x.2++es)))) (AD (Lk o) λxs=>AD (Lk b) λa=>KC xs.length (KC a.length (k (.list (xs++a)))))
def WT (a b:AV)(σ:AC)(k:DK):=Cj σ a λc o=>Cj σ b λZ p=>xO o p λo=>k (.d nn) (σ.set c (some o))
def oW (a:AV)(σ:AC)(k:DK):=Dz σ a λc Z Z=>k (.ref (σ.length+1)) (σ++[some (.liter c 0)]++[some (.enum σ.length 0)])
def numsOf (l:List AV):Option (List Int):=match l with|[]=>some []|a::l=>Br (Cp a) λi=>Br (numsOf l) λr=>some (i::r)
def xP (a:AV)(σ:AC)(k:DK):=Cj σ a λZ o=>AD (Lk o) λxs=>AD (numsOf xs) λl=>k (.d (.int l.sum)) σ
def UU (l:List AV):Option (List Str):=match l with|[]=>some []|a::l=>Br (M8 a) λi=>Br (UU l) λr=>some (i::r)
def oX (a b:AV)(σ:AC)(k:DK):=AD (M8 a) λs=>Cj σ b λZ o=>AD (Lk o) λxs=>AD (UU xs) λl=>JoinOk s l/\k (.d (.str (Txt.join s l))) σ
def Di (i:Int):Str:=Str.ofString (toString i)
def dO (p:Pr)(as:List AV)(σ:AC)(k:DK):Prop:=match p with
 |.tuple=>MK as λa=>dK a σ k
 |.list=>MK as λa=>listOf a σ k
 |.range=>dL as σ k
 |.len=>MK as λa=>xK a σ k
 |.abs=>MK as λa=>AD (Cp a) λi=>k (.d (.int (if i<0 then -i else i))) σ
 |.max=>YB as λa b=>AD (Cp a) λi=>AD (Cp b) λj=>k (.d (.int (max i j))) σ
 |.min=>(match as with|[a]=>xL a σ k|as=>YB as λa b=>AD (Cp a) λi=>AD (Cp b) λj=>k (.d (.int (min i j))) σ)
 |.sum=>MK as λa=>xP a σ k
 |.sorted=>MK as λa=>WQ a σ k
 |.enumerate=>MK as λa=>oW a σ k
 |.dict=>MK as λa=>oT a σ k
 |.str=>MK as λa=>AD (Cp a) λi=>small i/\k (.d (.str (Di i))) σ
 |.lappend=>YB as λa b=>WS a b σ k
 |.lpop=>MK as λa=>xN a σ k
 |.lextend=>YB as λa b=>WT a b σ k
 |.dget=>kO as λa b d=>oV a b d σ k
 |.dsetdefault=>kO as λa b d=>WR a b d σ k
 |.dpop=>kO as λa b d=>xM a b d σ k
 |.sjoin=>YB as λa b=>oX a b σ k
 |.zip=>False
section
variable {S:St}{A:Around}{c:At S}
def Cm {as:List AV}{vs:List Value}{k:AV->Prop}{P:List Value->Prop}(h:MK as k)(rs:c.VRs as vs)(q:∀a v,c.VR a v->k a->P [v]):P vs:=by
 match as,h with
 |[a],h=>show Bj rs λv d b r e=>?_;subst b;ext e;show q a v r h
def HR {as:List AV}{vs:List Value}{k:AV->AV->Prop}{P:List Value->Prop}(h:YB as k)(rs:c.VRs as vs)(q:∀a b v w,c.VR a v->c.VR b w->k a b->P [v,w]):P vs:=by
 match as,h with
 |[a,b],h=>show F2 rs λv g d r w i f r' e=>?_;subst d;subst f;ext e;show q a b v w r r' h
def Jk {as:List AV}{vs:List Value}{k:AV->AV->AV->Prop}{P:List Value->Prop}(h:kO as k)(rs:c.VRs as vs)(q:∀a b d v w x,c.VR a v->c.VR b w->c.VR d x->k a b d->P [v,w,x]):P vs:=by
 match as,h with
 |[a,b,d],h=>show Lc rs λv l g r w m i r' x n j f e=>?_;subst g;subst i;subst j;ext e;show q a b d v w x r r' f h
abbrev WP (A:Around)(c:At S)(f:Value)(vs:List Value)(k:DK):=WV A c (PySem.call f vs []) k
theorem KO {k:DK}{Q:F3}(q:∀r (c':At S) x,k r c'.σ->c.le c'->c'.VR r x->Q x c'.s){a:AV}{v:Value}(hk:k a c.σ){h':Heap}{t:Nat}(d:∀b o,c.h.get? b=some o->h'.get? b=some o)(r:TK c.h h'->Cg c.γ h' a v):Q v {c.s with heap:=h',toks:=t}:=
 q a (c.grow t d) v hk (c.le_grow ..) (r (.keeps d))
theorem UV {k:DK}{Q:F3}(q:∀r (c':At S) x,k r c'.σ->c.le c'->c'.VR r x->Q x c'.s){o:AO}(hk:k (.ref c.σ.length) (c.σ++[some o])){a:Addr}{h':Heap}{t:Nat}(d:c.h.get? a=none)(f:∀b o,c.h.get? b=some o->h'.get? b=some o)(x:AL S.prog S.w (c.γ++[a]) h' o a):Q (.ref a) {c.s with heap:=h',toks:=t}:=
 q _ (c.new t d f x) _ hk (c.le_new ..) ⟨a,rfl,c.new_ref a⟩
theorem Iz {k:DK}{Q:F3}(q:∀r (c':At S) x,k r c'.σ->c.le c'->c'.VR r x->Q x c'.s){i:Nat}{ao o:AO}{a:Addr}{b:AV}{v:Value}(d:live c.σ i ao)(f:c.γ[i]?=some a)(hk:k b (c.σ.set i (some o))){h':Heap}{t:Nat}(g:∀b o,b≠a->c.h.get? b=some o->h'.get? b=some o)(x:TK c.h h'->AL S.prog S.w c.γ h' o a)(r:TK c.h h'->Cg c.γ h' b v):Q v {c.s with heap:=h',toks:=t}:=
 q b (c.put t d f g λZ q tk=>by ext q;show x tk) v hk (c.le_put ..) (r (c.R.tkBut d f g))
theorem G5 {k:DK}{Q:F3}(q:∀r (c':At S) x,k r c'.σ->c.le c'->c'.VR r x->Q x c'.s){a:AV}{v:Value}(hk:k a c.σ){t:Nat}(r:c.VR a v):Q v {c.s with toks:=t}:=q a (c.tok t) v hk (c.le_tok _) r
def WW {γ}{hp}:∀ {n:Nat} {x:Int} {vs:List Value},vs.length=n->(∀(i:Nat) v,vs[i]?=some v->∃t,v=.int (x+(i:Int) * 1) t)->AY γ hp (xJ n x) vs:=by
 intro n
 induction n with
 |zero=>intro x vs hl _;show List.length_eq_zero_iff.mp hl
 |succ n ih=>
  intro x vs hl hv;cases vs with
  |nil=>ext hl
  |cons v a=>
   obtain⟨t,rfl⟩:=hv 0 v rfl;show⟨_,a,rfl,⟨t,?_⟩,ih (Nat.succ.inj hl) λi v e=>?_⟩
   · change Value.int (x+0 * 1) t=Value.int x t
     congr 1;lia
   · obtain⟨t,rfl⟩:=hv (i+1) v e;show⟨t,by congr 1;push_cast;lia⟩
def YC (s:A.handled=none){a:AV}{v:Value}{k:DK}(r:c.VR a v)(h:dK a c.σ k):WP A c (.type "tuple") [v] k:=by
 show AE h (λt e h=>AG h λd h E Q q=>?_) λh=>Al h r λi ao ad B f r h E Q q=>?_
 · have r:=A8 e r;have fin:∀ {ad its},c.h.IsTuple ad its->v=.ref ad->wpAny S.mdl A (PySem.call (.type "tuple") [v] []) Q E c.s:=λhi e=>by subst e;show call_tuple_same hi (q _ c _ h (.refl c) r)
   have g:=r;cases t with
   |tup=>show Bj g λZ Z e hi Z=>?_;show fin hi e
   |dom=>show Bj g λZ Z e hi Z=>?_;show fin hi e
   |tp=>show Bj g λZ Z e hi Z=>?_;show fin hi e
   |_=>ext d
 · have fin:∀ {xs its t},c.h.PlainList ad its->AY c.γ c.h xs its.toList->xs.length<=1000->k (.d t) c.σ->(∀h' z,TK c.h h'->h'.IsTuple z its->Ah h' t (.ref z))->wpAny S.mdl A (PySem.call (.type "tuple") [.ref ad] []) Q E c.s:=λ{xs its t} hp rs hz hk m=>
    call_tuple_list hp.isList (λh' j=>KO q hk (λb o e=>JQ {cls:=.type "tuple",data:=.seq its} (j b o e)) λtk=>m _ _ tk ⟨_,J6 _ rfl,rfl,0,rfl⟩) (by rw[<-Ej,<-rs.length,KY];lia)
   show AE h (λxs ex h=>?_) λh=>AE h (λx ex h=>?_) λh=>AA h λx ex h=>AG h λhc h=>AA h λl f h=>?_
   · show AH (AL.items (xs:=xs) (by show(BQ ex)▸?_;rfl) r) λits hp rs=>?_;obtain⟨hz,h⟩:=BF h;show AA h λl f h=>fin hp rs hz h λh' z tk d=>⟨z,its,rfl,d,(Ea f rs).mono tk⟩
   · show AH (AL.items (xs:=x.2.map (Ch x.1)) (by rw[Bf ex];rfl) r) λits hp rs=>?_;show fin hp rs (by rw[Ei];show h.1) h.2 λh' z tk d=>⟨z,its,rfl,d,by rw[<-Ej,<-rs.length,Ei];show h.1⟩
   · have h1:=aL hc;have n:=aR hc;have h3:=aL n;have y:=aR n;rw[GA ex] at r;show XY r.rng λt u w hr=>?_;show Jj s hr h1 (rangeSize_one (AAL h3)) (DF y) λh' tk acc j p=>KO q h (λb o e=>JQ {cls:=.type "tuple",data:=.seq acc} (j b o e)) λtk=>
      ⟨h'.objs.size,acc,rfl,⟨_,J6 _ rfl,rfl,0,rfl⟩,Ea (γ:=c.γ) f (WW (by show(Ej)▸?_;show p.1) λi v e=>p.2 i v (by rwa [Vn] at e))⟩
def YD (p:A.handled=none){a:AV}{v:Value}{k:DK}(r:c.VR a v)(h:listOf a c.σ k):WP A c (.type "list") [v] k:=by
 show AE h (λt e h=>AA h λl f h=>Dy f (A8 e r) λad its s rs E Q q=>?_) λh=>Al h r λi ao ad B f r h=>AE h (λx ex h=>AG h λhc h E Q q=>?_) λh=>Lv h r λits o xs hp hz y rs hk E Q q=>?_
 · obtain⟨hz,h⟩:=BF h;show Om (id s) λo ho hc n hd=>?_;show call_list_seq ad (.inr rfl) ho hc hd (λh' c' b d=>UV (t:=c.s.toks) q h (Bw _) b (.ofItems (xs:=l.map .d) rfl ⟨c',d⟩ ((Qj rs).mono ⟨_,rfl⟩ (.keeps b)))) (by rw[<-Ej,<-rs.length,KY];lia)
 · have h1:=aL hc;have g:=aR hc;have h3:=aL g;have z:=aR g;rw[GA ex] at r;show XY r.rng λt u w hr=>?_;show call_list_range p hr h1 (rangeSize_one (AAL h3)) (EX (DF z) ∅) λh' tk j c' b hS m=>UV q h (Bw _) b (.ofItems (xs:=xJ _ _) rfl ⟨c',hS⟩ (WW (by rw[Ej];show m.1) λi v e=>m.2 i v (by rwa [Vn] at e)))
 · obtain⟨n,ho⟩:=id hp;have e0:(slicePick its none none none).toList=its.toList:=by
    rw[kms_pick_eq];show List.take_length
   rw[e0] at rs;show call_list_seq _ (.inl rfl) ho rfl rfl (λh' c' b d=>UV (t:=c.s.toks) q hk (Bw _) b (.ofItems y ⟨c',d⟩ (rs.mono ⟨_,rfl⟩ (.keeps b)))) (by rw[KY];lia)
def YE {as:List AV}{vs:List Value}{k:DK}(rs:c.VRs as vs)(h:dL as c.σ k):WP A c (.type "range") vs k:=by
 match as,h with
 |[a],h=>
   show Bj rs λv f d r e=>?_;subst d;ext e;show AA h λn en h=>A9 (P:=λv=>WP A c (.type "range") [v] k) en r λt E Q q=>call_range_1 (UV q h (Bw _) (λZ Z e=>JQ _ e) (.ofRng (J6 _ rfl)))
 |[a,b],h=>
   show F2 rs λv f d r w j g r' e=>?_;subst d;subst g;ext e;show AA h λm i h=>AA h λn en h=>A9 (P:=λv=>WP A c (.type "range") [v,w] k) i r λt=>A9 (P:=λw=>WP A c (.type "range") [.int m t,w] k) en r' λu E Q q=>call_range_2 (UV q h (Bw _) (λZ Z e=>JQ _ e) (.ofRng (J6 _ rfl)))
def Kq {n:Nat}(h:n<=1000):(n:Int)<2 ^ 63:=by lia
theorem WX {l:List Dt}{v:Value}{k:DK}(r:Ah c.h (.tup l) v)(hl:l.length<=1000)(h:k (.d (.int l.length)) c.σ):WP A c (.builtin "len") [v] k:=λE Q q=>by
 show Bj r λad its b d rs=>?_;subst b;have hz:=rs.length.trans Ej;show PyProof.Rows.len_tuple d (hz▸Kq hl) (hz▸G5 (a:=.d (.int l.length)) q h ⟨_,rfl⟩)
def kP {a:AV}{v:Value}{k:DK}(r:c.VR a v)(h:xK a c.σ k):WP A c (.builtin "len") [v] k:=by
 show AE h (λt f h=>AE h (λl g h=>WX (Ci g▸A8 f r) (BF h).1 (BF h).2) λh=>AA h λd n h=>?_) λh=>Al h r λi ao ad j g r h=>AE h (λx ex h E Q q=>?_) λh=>AE h (λxs ex h E Q q=>?_) λh=>AE h (λes ex h E Q q=>?_) λh=>AA h λx ex h E Q q=>?_
 · have e:=Ei pairD (as:=d);show WX (Ah.domTup (Dp n▸A8 f r)) (e.symm▸h.1) (by show(e)▸?_;show h.2)
 · show AH (AL.items (xs:=x.2.map (Ch x.1)) (by show(Bf ex)▸?_;rfl) r) λits hp rs=>?_;have hz:=rs.length.trans Ej;rw[Ei] at hz;show call_len_list hp.isList (hz▸Kq h.1) (hz▸G5 (a:=.d (.int x.2.length)) q h.2 ⟨_,rfl⟩)
 · show AH (AL.items (xs:=xs) (by show(BQ ex)▸?_;rfl) r) λits hp rs=>?_;have hz:=rs.length.trans Ej;show call_len_list hp.isList (hz▸Kq (BF h).1) (hz▸G5 (a:=.d (.int xs.length)) q (BF h).2 ⟨_,rfl⟩)
 · show AH (AL.idict (CH ex▸r)) λkvs m hd=>?_;show call_len_dict (c.R.noMods j) hd (m.length▸Kq (BF h).1) (m.length▸G5 (a:=.d (.int es.length)) q (BF h).2 ⟨_,rfl⟩)
 · show AH (AL.iset (DU ex▸r)) λkvs hk hd=>?_;have hn:=DictOf.nodup hd;have hl:=hk.len hn;have hc:(kvs.length:Int)=CZ x.1+CZ x.2:=by
    rw[<-Ei (λo:Int×Value=>o.1) (as:=kvs)]
    rcases hk.shape hn with ⟨e,e1,b⟩|⟨e,e1,b⟩|⟨e,e1,b⟩|⟨e,e1,b⟩|⟨e,e1,b⟩<;>(rw[e,e1,b];rfl)
   rw[Ei] at hl;show call_len_dict (c.R.noMods j) hd (by lia) (hc▸G5 (a:=.d (.int (CZ x.1+CZ x.2))) q h ⟨_,rfl⟩)
end
section
variable {S:St}{A:Around}{c:At S}
def DB.min {j}{b c}(h:DB j b c)(hn:j.Nodup):(b->PD j=some 0)/\(b=false->c->PD j=some 1):=by
 rcases h.shape hn with ⟨rfl,rfl,rfl⟩|⟨rfl,rfl,rfl⟩|⟨rfl,rfl,rfl⟩|⟨rfl,rfl,rfl⟩|⟨rfl,rfl,rfl⟩<;>show⟨λq=>(by first|rfl|(ext q;done)),λq q'=>(by first|rfl|(ext q;done)|(ext q';done))⟩
def DB.sort {j}{b c}(h:DB j b c)(hn:j.Nodup):∃l,N2 j=some l/\∀k,WO b c k->k l:=by
 rcases h.shape hn with ⟨rfl,rfl,rfl⟩|⟨rfl,rfl,rfl⟩|⟨rfl,rfl,rfl⟩|⟨rfl,rfl,rfl⟩|⟨rfl,rfl,rfl⟩
 · show⟨[],rfl,λk h=>h.1 rfl rfl⟩
 · show⟨[0],rfl,λk h=>h.2.1 rfl rfl⟩
 · show⟨[1],rfl,λk h=>h.2.2.1 rfl rfl⟩
 · show⟨[0,1],rfl,λk h=>h.2.2.2 rfl rfl⟩
 · show⟨[0,1],rfl,λk h=>h.2.2.2 rfl rfl⟩
def YF {γ}{h}{vs}{ns}(r:IntsAre vs ns):AY γ h (ns.map λi=>.d (.int i)) vs:=by
 induction r with
 |nil=>rfl
 |cons n t _ ih=>show⟨_,_,rfl,⟨t,rfl⟩,ih⟩
def YG {l r}(h:N2 l=some r):l.length<64:=by
 match l,h with
 |[],_=>show(by decide:0<64)
 |[_],_=>show(by decide:1<64)
 |[_,_],_=>show(by decide:2<64)
def UW {h h':Heap}(k:∀b o,h.get? b=some o->h'.get? b=some o):h.get? h'.objs.size=none:=by
 cases e:h.get? h'.objs.size with
 |none=>rfl
 |some o=>have:=k _ _ e;rw[Bw] at this;ext this
theorem WY (a:A.handled=none){ad:Addr}{i:Nat}(d:c.γ[i]?=some ad){kvs}(hd:c.h.DictOf (intKind S.prog S.w) ad kvs){l}(e:N2 (kvs.map (·.1))=some l){k}(hk:k (.ref c.σ.length) (c.σ++[some (dM l)])):WP A c (.builtin "sorted") [.ref ad] k:=λE Q q=>
 RV a (c.R.noMods d) hd (by have:=YG e;rwa [Ei] at this) λh' f tk out g h k1 j ho hi hp m=>by
  cases dI e hp m;show UV q hk (UW k1) (λb o n=>j b o (k1 b o n)) (.ofItems (xs:=l.map λi=>.d (.int i)) rfl ⟨h,ho⟩ (YF hi))
theorem UX (b:A.handled=none){a:AV}{v:Value}{k}(r:c.VR a v)(h:WQ a c.σ k):WP A c (.builtin "sorted") [v] k:=
 Al h r λi ao ad d j r h=>AE h (λes ex h=>AA h λl e h=>AH (AL.idict (CH ex▸r)) λkvs g hd=>WY b d hd (by show(g.1)▸?_;show e) h) λh=>AA h λx ex h=>
  AH (AL.iset (DU ex▸r)) λkvs hk hd=>AH (hk.sort (DictOf.nodup hd)) λl e f=>WY b d hd e (f _ h)
theorem PE (b:A.handled=none){ad:Addr}{i:Nat}(d:c.γ[i]?=some ad){kvs}(hd:c.h.DictOf (intKind S.prog S.w) ad kvs){l:Int}(e:PD (kvs.map (·.1))=some l){k}(hk:k (.d (.int l)) c.σ):WP A c (.builtin "min") [.ref ad] k:=λE Q q=>
 dJ b (c.R.noMods d) hd e λh' tk t f=>KO (a:=.d (.int l)) q hk f λZ=>⟨t,rfl⟩
theorem kQ (b:A.handled=none){a:AV}{v:Value}{k}(r:c.VR a v)(h:xL a c.σ k):WP A c (.builtin "min") [v] k:=
 Al h r λi ao ad d j r h=>AE h (λes ex h=>AA h λl e h=>AH (AL.idict (CH ex▸r)) λkvs f hd=>PE b d hd (by show(f.1)▸?_;show e) h) λh=>AA h λx ex h=>by
  obtain⟨kvs,hk,hd⟩:=AL.iset (DU ex▸r);obtain⟨m1,g⟩:=hk.min (DictOf.nodup hd);cases e:x.1 with
  |true=>show PE b d hd (m1 e) (h.1 e)
  |false=>show PE b d hd (g e (h.2 e).1) (h.2 e).2
theorem oY {ad:Addr}{i:Nat}(h:c.γ[i]?=some ad){kvs}(hd:c.h.DictOf (intKind S.prog S.w) ad kvs)(hz:kvs.length<=1000){o:AO}{k}(hk:k (.ref c.σ.length) (c.σ++[some o]))
 (x:∀γ' h' b,Ka c.γ γ'->TK c.h h'->h'.DictOf (intKind S.prog S.w) b kvs->AL S.prog S.w γ' h' o b):WP A c (.type "dict") [.ref ad] k:=λE Q q=>
  kt_call_dict (c.R.noMods h) hd (by show(KY)▸?_;lia) λh' a d=>
   have f:∀b o,c.h.get? b=some o->h'.get? b=some o:=λb o g=>(d.2 b (Nat.ne_of_lt (Oh g))).trans (JQ _ g)
   UV (t:=c.s.toks) q hk (Bw _) f (x _ _ _ ⟨_,rfl⟩ (.keeps f) a)
theorem dP {a:AV}{v:Value}{k}(r:c.VR a v)(h:oT a c.σ k):WP A c (.type "dict") [v] k:=
 Al h r λi ao ad d g r h=>AE h (λes ex h=>AH (AL.idict (CH ex▸r)) λkvs f hd=>let ⟨hz,h⟩:=BF h;oY d hd (f.length.symm▸hz) h λZ Z Z p tk b=>.ofIdict (f.mono p tk) b) λh=>AA h λx ex h=>by
  show AH (AL.iset (DU ex▸r)) λkvs hk hd=>?_;have hl:=hk.len (DictOf.nodup hd);rw[Ei] at hl;show oY d hd (by lia) h λZ Z Z Z Z b=>.ofIset hk b
def By.getD {K:Type} [BEq K] [LawfulBEq K] {γ}{h}{es:List (K×AV)}{kvs:List (K×Value)}{d}{u}(a:By γ h es kvs)(b:Cg γ h d u)(j:K):Cg γ h ((es.lookup j).getD d) ((kvs.lookup j).getD u):=by
 cases e:es.lookup j with
 |none=>show(a.none e)▸?_;show b
 |some av=>let ⟨v,c,r⟩:=a.get e;show(c)▸?_;show r
theorem rg {K:Type} [DecidableEq K] {knd:PySem.KeyKind S.prog S.w K}{ad:Addr}{i:Nat}{es:List (K×AV)}{kvs:List (K×Value)}(h:c.γ[i]?=some ad)(hd:c.h.DictOf knd ad kvs)(l:By c.γ c.h es kvs){j:K}{g b:Value}{d av:AV}(a:knd.is j g)(m:c.VR d b){k}(hk:k av c.σ)
 (f:∀v,c.VR ((es.lookup j).getD d) v->c.VR av v):WP A c (.builtin "dict.get") [.ref ad,g,b] k:=λE Q q=>by
  show call_meetsIn PySem.F.slot_dict_get hd.typeIs PySem.F.entry_dict_get (PySem.F.args_dict_get_3 _ _ _) (meets_dict_get_default knd _ a (c.R.noMods h) b) ⟨_,hd.mapOf,G5 q hk ?_⟩;rw[Cy];show f _ (l.getD m j)
theorem UY (e:US a=some b)(r:c.VR a v):v=.bool b:=
 AI e λp e d=>AI e λx e f=>AI e λt e g=>by
  have r:=A8 e r;rw[Gw g,Kk f,show p=some b from d] at r;show r
def RW {n:Nat}{key:Str}{d:AV}{k}{P:Prop}(h:UT n key d k)(q:∀av,(∀v,c.VR (((Il n).lookup key).getD d) v->c.VR av v)->k av->P):P:=by
 unfold UT at h;cases e1:key==("all":Str) with
 |true=>
  rw[e1] at h;cases Fz.mp e1;show AA h λb g h=>AG h λhb h=>q _ (λv r=>?_) h;have f:c.VR d v->c.VR (ba false) v:=λr=>(UY g r).trans (by cases b with|false=>rfl|true=>ext hb)
  revert r;show n5 f id f f (λZ=>id) n
 |false=>
  rw[e1] at h;cases a:key==("answers":Str) with
  |true=>
   rw[a] at h;cases Fz.mp a;show AA h λi j h=>AG h λhi h=>q _ (λv r=>?_) h;have f:c.VR d v->c.VR (.d (.int 1)) v:=λr=>A9 j r λt=>⟨t,by rw[AAL hi]⟩
   revert r;show n5 f f id id (λZ=>id) n
  |false=>
   rw[a] at h;show q _ (λv r=>?_) h;have z:∀ {x:Str} {av:AV} {l:List (Str×AV)},(key==x)=false->l.lookup key=none->((x,av)::l).lookup key=none:=λh i=>by rw[Sa,h];show i
   have:(Il n).lookup key=none:=n5 rfl (z e1 rfl) (z a rfl) (z a rfl) (λZ=>z e1 (z a rfl)) n;rwa [this] at r
def YH {o}{n}{γ}{h}{a}(e:oU o=some n)(r:AL S.prog S.w γ h o a):AL S.prog S.w γ h (.sdict (Il n)) a:=by
 show Ap (p:=λn=>AL S.prog S.w γ h (.sdict (Il n)) a) ?_ e;cases o with
 |kd w=>
  cases w with
  |opt=>show r
  |_=>trivial
 |_=>trivial
def dQ {a b d:AV}{v w x:Value}{k}(r:c.VR a v)(l:c.VR b w)(m:c.VR d x)(h:oV a b d c.σ k):WP A c (.builtin "dict.get") [v,w,x] k:=by
 show Al (P:=λv=>WP A c (.builtin "dict.get") [v,w,x] k) h r λi ao ad o p r h=>AE h (λes ex h=>AA h λj ej h=>?_) λh=>AE h (λes ex h=>AA h λj ej h=>?_) λh=>AA h λn ex h=>AA h λj ej h=>?_
 · show AH (AL.idict (CH ex▸r)) λkvs g hd=>?_;show A9 (P:=λw=>WP A c (.builtin "dict.get") [.ref ad,w,x] k) ej l λt=>rg o hd g (FU j t) m h λZ r=>r
 · show AH (AL.sdict (HQ ex▸r)) λkvs g hd=>?_;show Gx (P:=λw=>WP A c (.builtin "dict.get") [.ref ad,w,x] k) ej l λt=>rg o hd g (strKind_is S.prog S.w j t) m h λZ r=>r
 · show AH (AL.sdict (YH ex r)) λkvs g hd=>?_;show Gx (P:=λw=>WP A c (.builtin "dict.get") [.ref ad,w,x] k) ej l λt=>RW h λav f hk=>rg o hd g (strKind_is S.prog S.w j t) m hk f
def UZ (r:c.VR a v)(y:c.VR b w)(n:c.VR d x)(h:WR a b d c.σ k):WP A c (.builtin "dict.setdefault") [v,w,x] k:=by
 show Al (P:=λv=>WP A c (.builtin "dict.setdefault") [v,w,x] k) h r λi ao ad p z r h=>AA h λes ex h=>AA h λj ej h=>A9 (P:=λw=>WP A c (.builtin "dict.setdefault") [.ref ad,w,x] k) ej y λt E Q q=>?_;obtain⟨hz,h⟩:=BF h;show AH (AL.idict (CH ex▸r)) λkvs f hd=>?_;show Jh (knd:=intKind S.prog S.w) (k:=j) (FU j t) (c.R.noMods p) hd (by rw[f.length,KY];lia) (λu ev=>?_) (λev h' g m=>?_) (PySem.F.args_dict_setdefault_3 _ _ _)<;>rw[Cy] at ev
 · cases e:es.lookup j with
   |none=>rw[f.none e] at ev;ext ev
   |some av=>
    show AH (f.get e) λv l s=>?_;rw[ev] at l;ext l;rw[e] at h;show G5 q h s
 · cases e:es.lookup j with
   |some av=>show AH (f.get e) λv l s=>?_;rw[ev] at l;ext l
   |none=>
    rw[e] at h;rw[F8 _ _ (DictOf.nodup hd)] at g;show Iz q z p h (λb o ne e=>(m.2 b ne).trans e) (λtk=>.ofIdict ((f.mono (.refl _) tk).put (n.mono (.refl _) tk)) g) λtk=>n.mono (.refl _) tk
def DB.inn {j}{b c}(h:DB j b c){y}(m:CZ y∈j):(Bool.rec b c y:Bool):=by
 cases y with
 |false=>show((h.all _ m).resolve_right λq=>absurd q.1 ∅).2
 |true=>show((h.all _ m).resolve_left λq=>absurd q.1 ∅).2
def DB.out {j}{b c}(h:DB j b c){y}(m:CZ y ∉ j):(Bool.rec b c y:Bool)=false:=by
 cases y with
 |false=>show Bool.eq_false_iff.mpr λe=>m (h.zero e)
 |true=>show Bool.eq_false_iff.mpr λe=>m (h.one e)
def RX {kvs}{j:Int}{v:Value}(hv:valueAt kvs j=some v):j∈kvs.map (·.1):=by
 show AH (XX.mp hv) λp a Z=>?_;have h3:=List.find?_some a;show Zs.mpr ⟨p,List.mem_of_find?_eq_some a,AAL h3⟩
theorem RY {kvs}{j:Int}(hv:valueAt kvs j=none):j ∉ kvs.map (·.1):=λhm=>by
 obtain⟨p,a,b⟩:=Zs.mp hm;unfold valueAt at hv;rw[Option.map_eq_none_iff,List.find?_eq_none] at hv;show absurd (Fy b) (hv p a)
def kR {a b d:AV}{v w x:Value}{k}(r:c.VR a v)(m:c.VR b w)(n:c.VR d x)(h:xM a b d c.σ k):WP A c (.builtin "dict.pop") [v,w,x] k:=by
 show Al (P:=λv=>WP A c (.builtin "dict.pop") [v,w,x] k) h r λi ao ad l p r h=>AA h λy ex h=>AA h λj ej h=>A9 (P:=λw=>WP A c (.builtin "dict.pop") [.ref ad,w,x] k) ej m λt=>Ja h λz s hz E Q q=>?_;subst s;show AH (AL.iset (DU ex▸r)) λkvs hk hd=>?_;have hl:=hk.len (DictOf.nodup hd);rw[Ei] at hl;cases hv:valueAt kvs (CZ z) with
 |some v'=>
  show call_meetsIn PySem.F.slot_dict_pop hd.typeIs PySem.F.entry_dict_pop (PySem.F.args_dict_pop_3 _ _ _) (meets_dict_pop_there (intKind S.prog S.w) _ (FU _ t) [x] (.inr ⟨x,rfl⟩) rfl) ⟨kvs,v',hd,by show(KY)▸?_;lia,hv,λh' f g=>
   Iz (b:=.d .any) q p l (hz.1 (hk.inn (RX hv))) (λb o ne e=>(g.2 b ne).trans e) (λZ=>.ofIset (hk.cut z) f) λZ=>trivial⟩
 |none=>show UQ (FU _ t) rfl hd hv (G5 q (hz.2 (hk.out (RY hv))) n) (c.R.noMods l) (PySem.F.args_dict_pop_3 _ _ _)
theorem Ua (r:c.VR a v)(f:c.VR b w)(h:WS a b c.σ k):WP A c (.builtin "list.append") [v,w] k:=
 Al (P:=λv=>WP A c (.builtin "list.append") [v,w] k) h r λi ao ad g j r h=>N0 h r f λo its hp hz x hk E Q q=>
  wpAny_list_append_plain hp (λh' d l=>Iz (t:=c.s.toks) (b:=.d nn) q j g hk (λb o ne e=>(l.2 b ne).trans e) (λtk=>x h' tk d) λZ=>rfl) (by show(KY)▸?_;lia)
end
section
variable {S:St}{A:Around}{c:At S}
def AY.last (r:AY γ h xs vs)(e:xs.getLast?=some a):∃v,vs[vs.length-1]?=some v/\Cg γ h a v/\AY γ h xs.dropLast (vs.take (vs.length-1)):=by
 rw[List.getLast?_eq_getElem?] at e;show AH (r.get e) λv e1 b=>?_;rw[List.dropLast_eq_take,<-r.length];show⟨v,e1,b,r.take _⟩
theorem xQ {ad}{i}{ao o}{xs}{its}{av}{k}(g:c.γ[i]?=some ad)(h:live c.σ i ao)(hp:c.h.PlainList ad its)(rs:AY c.γ c.h xs its.toList)(hz:its.size<=1000)(e:xs.getLast?=some av)(hk:k av (c.σ.set i (some o)))
 (x:∀h' a,h'.PlainList ad a->AY c.γ h' xs.dropLast a.toList->AL S.prog S.w c.γ h' o ad):WP A c (.builtin "list.pop") [.ref ad] k:=λE Q q=>by
  obtain⟨n,ho⟩:=id hp;show Ek (rs.last e) λy d j f=>?_;rw[Ej] at d f;rw[Vn] at d;show call_meets PySem.F.slot_list_pop ⟨_,ho,rfl⟩ PySem.F.entry_list_pop (PySem.F.args_list_pop_1 _) (MeetsSeq.list_pop_last _ its n y d (by rw[KY];lia)) ⟨ho,?_⟩;have m:(its.eraseIdxIfInBounds (its.size-1)).toList=its.toList.take (its.size-1):=by
   obtain⟨l⟩:=its;rw[List.eraseIdxIfInBounds_toArray];change l.eraseIdx (l.length-1)=_;rw[List.eraseIdx_eq_take_drop_succ,List.drop_eq_nil_of_le (by lia),XW];rfl
  show Iz (t:=c.s.toks) (h':=c.h.update ad (Obj.mapSeq λxs=>xs.eraseIdxIfInBounds (its.size-1))) q h g hk (λb o ne e=>((pn ..).2 b ne).trans e) (λtk=>x _ _ ⟨_,PySem.IsL.update (n:=n) ho _⟩ (by rw[m];show f.mono (.refl _) tk)) λtk=>j.mono (.refl _) tk
theorem kS (r:c.VR a v)(h:xN a c.σ k):WP A c (.builtin "list.pop") [v] k:=
 Al (P:=λv=>WP A c (.builtin "list.pop") [v] k) h r λi ao ad f g r h=>AE h (λx ex h=>by
  show AH (AL.items (xs:=x.2.map (Ch x.1)) (by rw[Bf ex];rfl) r) λits hp rs=>?_;have hz:=rs.length;rw[Ei,Ej] at hz;show xQ f g hp rs (hz▸h.1) ?_ (HM h.2.2) λh' d b r'=>.ofItems (xs:=x.2.dropLast.map (Ch x.1)) rfl b (by rw[List.map_dropLast];show r');obtain⟨y,j⟩:∃y,x.2.getLast?=some y:=⟨_,uj h.2.1⟩
  rw[List.getLast?_map,zA,j];rfl) λh=>AA h λxs ex h=>by
  show AH (AL.items (xs:=xs) (by rw[BQ ex];rfl) r) λits hp rs=>?_;obtain⟨hz,h⟩:=BF h;show AA h λav e hk=>xQ f g hp rs (by rw[<-Ej,<-rs.length];show hz) e hk λh' d b r'=>.ofItems (xs:=xs.dropLast) rfl b r'
def RZ:∀ {es:List El} {vs:List Value},dN t l=some es->AY γ h l vs->AY γ h (es.map (Ch t)) vs:=by
 induction l with
 |nil=>intro es vs e r;ext e;show r
 |cons a l ih=>
  intro es vs e ⟨v,b,c,r,rs⟩;show AI e λx ex e=>AI e λf d e=>by ext e;show⟨v,b,c,WN ex r,ih d rs⟩
def YI {o b:AO}{k}{P:Prop}{ad m:Addr}(h:xO o b k)(r:AL S.prog S.w c.γ c.h o ad)(r':AL S.prog S.w c.γ c.h b m)
 (q:∀n its a,c.h.PlainList ad its->c.h.PlainList m a->its.size<=1000->a.size<=1000->(∀h',TK c.h h'->h'.PlainList ad (its++a)->AL S.prog S.w c.γ h' n ad)->k n->P):P:=by
  show AE h (λx ex h=>AA h.2 λi j l=>?_) λh=>AA h λxs ex h=>AA h λi j h=>?_
  · obtain⟨g,l⟩:=BF l;show AH (AL.items (xs:=x.2.map (Ch x.1)) (by rw[Bf ex];rfl) r) λits hp rs=>?_;show AH (AL.items (xs:=i) (by rw[BQ j];rfl) r') λa d f=>?_;have hz:=rs.length;rw[Ei,Ej] at hz;show AA l λes p hk=>q _ its a hp d (hz▸h.1) (by rw[<-Ej,<-f.length];show g) (λh' tk d=>.ofItems (xs:=(x.2++es).map (Ch x.1)) rfl d (by
     rw[ui,Zf];show(rs.mono (.refl _) tk).append ((RZ p f).mono (.refl _) tk))) hk
  · obtain⟨hz,h⟩:=BF h;obtain⟨g,h⟩:=BF h;show AH (AL.items (xs:=xs) (by rw[BQ ex];rfl) r) λits hp rs=>?_;show AH (AL.items (xs:=i) (by rw[BQ j];rfl) r') λa d f=>?_;show q _ its a hp d (by rw[<-Ej,<-rs.length];show hz) (by rw[<-Ej,<-f.length];show g) (λh' tk d=>.ofItems (xs:=xs++i) rfl d (by
     rw[ui];show(rs.mono (.refl _) tk).append (f.mono (.refl _) tk))) h
def Ub {a b:AV}{v w:Value}{k}(r:c.VR a v)(l:c.VR b w)(h:WT a b c.σ k):WP A c (.builtin "list.extend") [v,w] k:=by
 show Al (P:=λv=>WP A c (.builtin "list.extend") [v,w] k) h r λi ao ad m p r h=>Al (P:=λw=>WP A c (.builtin "list.extend") [.ref ad,w] k) h l λj u y z Z r' h=>YI h r r' λo its d hp f B C x hk E Q q=>?_;obtain⟨n,ho⟩:=id hp;obtain⟨s,g⟩:=id f;show call_meets PySem.F.slot_list_extend ⟨_,ho,rfl⟩ PySem.F.entry_list_extend (PySem.F.args_list_extend_2 _ _) (AutoSeq1.list_extend_list_list_0 _ its n _ d s ?_ (by rw[KY];lia) (by rw[KY];lia)) ⟨ho,g,?_⟩
 · intro hb;rw[Bool.and_eq_true] at hb;have:=hb.2;unfold Builtin.List.listTooLong at this;rw[KY] at this;simp at this;lia
 · show Iz (t:=c.s.toks) (b:=.d nn) (h':=c.h.update ad (Obj.mapSeq λx=>x++d)) q p m hk (λb o ne e=>((pn ..).2 b ne).trans e) (λtk=>x _ tk ⟨_,PySem.IsL.update (n:=n) ho _⟩) λZ=>rfl
theorem dR (r:c.VR a v)(h:oW a c.σ k):WP A c (.type "enumerate") [v] k:=
 Cc (P:=λv=>WP A c (.type "enumerate") [v] k) h r λi ao xs ad its m w Z hp Z Z h E Q q=>by
  obtain⟨n,ho⟩:=id hp;show call_enumerate_1 ho λh' he hi p j=>?_;show Ek (id hi) λd g1 g f=>?_;have fr:d.isFreed=false:=by
   obtain⟨_,_,_,_⟩:=d;ext f;rfl
  have s:∀b o,(c.h.push d).get? b=some o->h'.get? b=some o:=λb o e=>by
   by_cases hb:b=c.h.objs.size
   · subst hb;rw[J6 _ fr] at e;ext e;show g1
   · show j b o (by rwa [Heap.get?_push_ne _ _ _ hb] at e)
  have R1:=c.R.new (t:=c.s.toks) (Bw _) (λb o e=>JQ d e) (ao:=.liter i 0) (.ofLiter (l:=ad) ⟨d,J6 _ fr,g,f⟩ (Ka.get ⟨_,rfl⟩ m));have u:=R1.new (a:=c.h.objs.size+1) (h':=h') (t:=c.s.toks) (by have:=Bw (c.h.push d);rwa [pu] at this) s (ao:=.enum c.σ.length 0) (.ofEnum he (Ka.get ⟨_,rfl⟩ (c.new_ref _)));have e1:=Lh (c.γ++[c.h.objs.size]) (c.h.objs.size+1);rw[JT,c.R.len] at e1;show q _ ⟨_,_,_,u⟩ _ h ⟨⟨_,pj ..⟩,.keeps j⟩ ⟨_,rfl,e1⟩
theorem intV {γ}{h}{a}{v}{i}(e:Cp a=some i)(r:Cg γ h a v):∃t,v=.int i t:=AI e λt e1 b=>by rw[DM e1,CK b] at r;show r
theorem strV (e:M8 a=some i)(r:Cg γ h a v):∃t,v=.str i t:=AI e λt e1 b=>by rw[DM e1,D6 b] at r;show r
def Uc:∀ {vs:List Value} {l:List Int},AY γ h xs vs->numsOf xs=some l->∃b:List (Int×Tok),vs=b.map (λp=>Value.int p.1 p.2)/\b.map (·.1)=l:=by
 induction xs with
 |nil=>intro vs l r e;ext e;show⟨[],r,rfl⟩
 |cons a xs ih=>
  intro vs l ⟨v,g,ev,r,rs⟩ e;show AI e λi c e=>AI e λj d e=>?_;ext e;obtain⟨t,e⟩:=intV c r;show AH (ih rs d) λb f hz=>?_;show⟨(i,t)::b,by rw[ev,e,f];rfl,by rw[Zg,hz]⟩
theorem kU (j:A.handled=none){a}{v}{k}(r:c.VR a v)(h:xP a c.σ k):WP A c (.builtin "sum") [v] k:=
 Al (P:=λv=>WP A c (.builtin "sum") [v] k) h r λi ao ad o p r h=>AA h λxs ex h=>AA h λl en h E Q q=>by
  show AH (AL.items (xs:=xs) (by rw[BQ ex];rfl) r) λits hp rs=>?_;show AH (Uc rs en) λg hz d=>?_;have f:its=intItems g.toArray:=by
   apply Array.toList_inj.mp;rw[hz];simp[intItems]
  have b:=hp.isList;rw[f] at b;show sum_intListG j b λh' tk m n=>?_;rw[preSum_eq,jO (by simp)];have e1:g.toArray.toList.map (·.1)=l:=by simpa using d
  rw[e1];show KO (a:=.d (.int l.sum)) q h n λZ=>⟨m,rfl⟩
def Ud:∀ {vs:List Value} {l:List Str},AY γ h xs vs->UU xs=some l->∃b:List (Str×Tok),vs=strValues b/\b.map (·.1)=l:=by
 induction xs with
 |nil=>intro vs l r e;ext e;show⟨[],r,rfl⟩
 |cons a xs ih=>
  intro vs l ⟨v,g,ev,r,rs⟩ e;show AI e λi c e=>AI e λj d e=>?_;ext e;obtain⟨t,e⟩:=strV c r;show AH (ih rs d) λb f hz=>?_;show⟨(i,t)::b,by rw[ev,e,f];rfl,by rw[Zg,hz]⟩
theorem dS (r:c.VR a v)(j:c.VR b w)(h:oX a b c.σ k):WP A c (.builtin "str.join") [v,w] k:=
 AA h λx ex h=>Gx (P:=λv=>WP A c (.builtin "str.join") [v,w] k) ex r λt=>Al (P:=λw=>WP A c (.builtin "str.join") [.str x t,w] k) h j λi ao ad o p r h=>AA h λxs f h=>AA h λl en h E Q q=>by
  show AH (AL.items (xs:=xs) (by rw[BQ f];rfl) r) λits hp rs=>?_;show AH (Ud rs en) λm hz g=>?_;have d:=hp.isList;rw[show its=(strValues m).toArray from by rw[<-hz]] at d;show PySem.SC.join d g h.1 λn s=>G5 (a:=.d (.str (Txt.join x l))) q h.2 ⟨n,rfl⟩
theorem kV {i}{t}{k}(b:small i)(h:k (.d (.str (Di i))) c.σ):WP A c (.type "str") [.int i t] k:=λE Q q=>by
 show PySem.P.str_of_int ?_ (G5 (a:=.d (.str (Di i))) q h ⟨_,rfl⟩);have b1:=b.1;have d:=b.2
 by_cases z:i.natAbs=0
 · rw[z];decide
 · show Nat.lt_trans ((Nat.log2_lt z).mpr (show i.natAbs<2 ^ 31 by omega)) ∅
theorem rh (f:A.handled=none){a b}{v w}{k}(r:c.VR a v)(g:c.VR b w)(h:AD (Cp a) λi=>AD (Cp b) λj=>k (.d (.int (max i j))) c.σ):WP A c (.builtin "max") [v,w] k:=
 AA h λi l h=>AA h λj ej h=>A9 (P:=λv=>WP A c (.builtin "max") [v,w] k) l r λt=>A9 (P:=λw=>WP A c (.builtin "max") [.int i t,w] k) ej g λu E Q q=>max_two_ints f λh' tk d=>by
  by_cases hc:j>i
  · rw[if_pos hc];show KO (a:=.d (.int (max i j))) q h d λZ=>⟨_,by rw[Int.max_eq_right (by lia)]⟩
  · rw[if_neg hc];show KO (a:=.d (.int (max i j))) q h d λZ=>⟨_,by rw[Int.max_eq_left (by lia)]⟩
theorem rj (f:A.handled=none){a b}{v w}{k}(r:c.VR a v)(g:c.VR b w)(h:AD (Cp a) λi=>AD (Cp b) λj=>k (.d (.int (min i j))) c.σ):WP A c (.builtin "min") [v,w] k:=
 AA h λi l h=>AA h λj ej h=>A9 (P:=λv=>WP A c (.builtin "min") [v,w] k) l r λt=>A9 (P:=λw=>WP A c (.builtin "min") [.int i t,w] k) ej g λu E Q q=>min_two_ints f λh' tk d=>by
  by_cases hc:j<i
  · rw[if_pos hc];show KO (a:=.d (.int (min i j))) q h d λZ=>⟨_,by rw[Int.min_eq_right (by lia)]⟩
  · rw[if_neg hc];show KO (a:=.d (.int (min i j))) q h d λZ=>⟨_,by rw[Int.min_eq_left (by lia)]⟩
theorem rm (r:c.VR a v)(h:AD (Cp a) λi=>k (.d (.int (if i<0 then -i else i))) c.σ):WP A c (.builtin "abs") [v] k:=
 AA h λi b h=>A9 (P:=λv=>WP A c (.builtin "abs") [v] k) b r λt E Q q=>call_abs_int λu tk=>G5 (a:=.d (.int (if i<0 then -i else i))) q h ⟨u,rfl⟩
def Ra (h:dO p as c.σ k)(rs:c.VRs as vs)(hr:Ay A 1):WP A c (BN p) vs k:=by
 have g:=hr.handled;cases p with
 |tuple=>show Cm (P:=λvs=>WP A c (BN .tuple) vs k) h rs λa v r h=>YC g r h
 |list=>show Cm (P:=λvs=>WP A c (BN .list) vs k) h rs λa v r h=>YD g r h
 |range=>show YE rs h
 |len=>show Cm (P:=λvs=>WP A c (BN .len) vs k) h rs λa v r h=>kP r h
 |abs=>show Cm (P:=λvs=>WP A c (BN .abs) vs k) h rs λa v r h=>rm r h
 |max=>show HR (P:=λvs=>WP A c (BN .max) vs k) h rs λa b v w r f h=>rh g r f h
 |min=>
  match as,h with
  |[a],h=>obtain⟨v,l,rfl,r,e⟩:=rs;ext e;show kQ g r h
  |[a,b],h=>show F2 rs λv l m r w q n r' e=>?_;subst m;subst n;ext e;show rj g r r' h
 |sum=>show Cm (P:=λvs=>WP A c (BN .sum) vs k) h rs λa v r h=>kU g r h
 |sorted=>show Cm (P:=λvs=>WP A c (BN .sorted) vs k) h rs λa v r h=>UX g r h
 |enumerate=>show Cm (P:=λvs=>WP A c (BN .enumerate) vs k) h rs λa v r h=>dR r h
 |dict=>show Cm (P:=λvs=>WP A c (BN .dict) vs k) h rs λa v r h=>dP r h
 |str=>show Cm (P:=λvs=>WP A c (BN .str) vs k) h rs λa v r h=>AA h λi o h=>A9 (P:=λv=>WP A c (.type "str") [v] k) o r λt=>kV h.1 h.2
 |lappend=>show HR (P:=λvs=>WP A c (BN .lappend) vs k) h rs λa b v w r f h=>Ua r f h
 |lpop=>show Cm (P:=λvs=>WP A c (BN .lpop) vs k) h rs λa v r h=>kS r h
 |lextend=>show HR (P:=λvs=>WP A c (BN .lextend) vs k) h rs λa b v w r f h=>Ub r f h
 |dget=>show Jk (P:=λvs=>WP A c (BN .dget) vs k) h rs λa b d v w x r f j h=>dQ r f j h
 |dsetdefault=>show Jk (P:=λvs=>WP A c (BN .dsetdefault) vs k) h rs λa b d v w x r f j h=>UZ r f j h
 |dpop=>show Jk (P:=λvs=>WP A c (BN .dpop) vs k) h rs λa b d v w x r f j h=>kR r f j h
 |sjoin=>show HR (P:=λvs=>WP A c (BN .sjoin) vs k) h rs λa b v w r f h=>dS r f h
 |zip=>show h.elim
end
def xR (t:Dt):Option Pr:=match t with|.pr p=>some p|_=>none
def YJ (e:xR t=some x):t=.pr x:=by
 show Ap (p:=λx=>t=.pr x) ?_ e;cases t<;>trivial
def YK {t}{x}(e:jp t=some x):t=.tp x:=by
 show Ap (p:=λx=>t=.tp x) ?_ e;cases t<;>trivial
def WZ (t:Dt):Option (List Dt×Nat):=match t with|.sel l n=>some (l,n)|_=>none
def Ue (e:WZ t=some x):t=.sel x.1 x.2:=by
 show Ap (p:=λx=>t=.sel x.1 x.2) ?_ e;cases t<;>trivial
def oZ (t:Dt):=Br (JS t) λl=>l2 l λx y=>Br (QM x) λi=>Br (QM y) λj=>some (i,j)
def PF (l:List Dt):Option Cf:=match l with|[]=>some []|t::l=>Br (oZ t) λp=>Br (PF l) λd=>some (p::d)
def Rb {α:Type}(m:List α)(k:Prop):Prop:=match m with|[]=>k|_=>False
def Jl {α:Type}(m:List α)(k:α->List α->Prop):Prop:=match m with|[]=>False|x::m=>k x m
def AAN {α:Type}{m:List α}{k P:Prop}(h:Rb m k)(q:m=[]->k->P):P:=by
 cases m with
 |nil=>show q rfl h
 |cons=>show h.elim
def D8 {α:Type}{m:List α}{k:α->List α->Prop}{P:Prop}(h:Jl m k)(q:∀x l,m=x::l->k x l->P):P:=by
 cases m with
 |nil=>show h.elim
 |cons x l=>show q x l rfl h
inductive Lf where|i (x:Int)|d (x:Cf)|v (x:Value)|s (x:Str)|l (x:List El)|n (x:Nat)|p (x:Pr)|b (x:Bool)|t (x:List Dt)|e (x:List (Str×AV))
abbrev Ob:=List (Lf×Lf)
abbrev Kt:=Ob->Prop
def Ob.ok (L:Ob):=L.map (·.1)=L.map (·.2)
def xS (n:Nat)(u:Dt)(L:Ob)(k:Kt):=AW (JS u) (λm=>As (Nat.ble m.length n) (k L)) (AW (jp u) (λm=>As (Nat.ble m n) (k L)) (AD (KH u) λd=>d.length<=n/\k L))
def oa (d:Cf)(u:Dt)(L:Ob)(k:Kt):=AW (KH u) (λe=>k ((.d e,.d d)::L)) (AD (JS u) λm=>AD (PF m) λe=>k ((.d e,.d d)::L))
mutual
noncomputable def og (t u:Dt)(L:Ob)(k:Kt):Prop:=match t with|.any=>k L|.v x=>AD (Zi u) λy=>k ((.v y,.v x)::L)|.pr p=>AD (xR u) λq=>k ((.p q,.p p)::L)|.int i=>AD (QM u) λj=>k ((.i j,.i i)::L)|.str s=>AD (jI u) λr=>k ((.s r,.s s)::L)|.tup l=>AD (JS u) λm=>kW l m L k|.dom d=>oa d u L k|.tp n=>xS n u L k|.sel l n=>AW (WZ u) (λx=>k ((.t x.1,.t l)::(.n x.2,.n n)::L)) (dT l n u L k)
noncomputable def kW (l m:List Dt)(L:Ob)(k:Kt):Prop:=match l with|[]=>Rb m (k L)|t::l=>Jl m λu m=>og t u L λL=>kW l m L k
noncomputable def dT (l:List Dt)(n:Nat)(u:Dt)(L:Ob)(k:Kt):Prop:=match l with|[]=>k L|t::l=>match n with|0=>og t u L k|n+1=>dT l n u L k
end
def To (L:Ob)(k:Kt)(p:Prop):=∃a,k a/\(a.ok->L.ok/\p)
theorem To.end (h:k L)(q:p):To L k p:=⟨L,h,λe=>⟨e,q⟩⟩
theorem Ob.cons {x y:Lf}{L:Ob}(h:Ob.ok ((x,y)::L)):x=y/\L.ok:=⟨(List.cons.inj h).1,(List.cons.inj h).2⟩
theorem To.one (h:k ((x,y)::L))(q:x=y->p):To L k p:=⟨_,h,λe=>let ⟨a,b⟩:=Ob.cons e;⟨b,q a⟩⟩
theorem To.imp (h:To L k p)(f:p->q):To L k q:=AH h λc a b=>⟨c,a,λe=>⟨(b e).1,f (b e).2⟩⟩
theorem To.and (h:To L f p)(g:∀i,f i->To i k q):To L k (p/\q):=AH h λi a b=>AH (g i a) λj c d=>⟨j,c,λe=>let ⟨x,y⟩:=d e;let ⟨z,w⟩:=b x;⟨z,w,y⟩⟩
section
variable {γ γ':List Addr}{h:Heap}
theorem YL {t}{p}(e:oZ t=some p){v}(r:Ah h t v):∃(a:Addr) (x y:Tok),v=.ref a/\h.IsTuple a #[.int p.1 x,.int p.2 y]:=
 AI e λl e1 e=>Kp e λx y c e=>AI e λi d e=>AI e λj f e=>by
  ext e;rw[Ci e1,c,CK d,CK f] at r;obtain⟨a,its,rfl,g,m,w1,h1,⟨t1,rfl⟩,n,o,k,⟨b,rfl⟩,h3⟩:=r;show⟨a,t1,b,rfl,by rwa [show its= #[.int i t1,.int j b] from Array.toList_inj.mp (by rw[h1,k,h3])] at g⟩
def Uf:∀ {d:Cf} {vs:List Value},PF l=some d->Ad h l vs->Dk h d vs:=by
 induction l with
 |nil=>intro d vs e r;ext e;show r
 |cons t l ih=>
  intro d vs e ⟨v,b,ev,r,rs⟩;show AI e λp e1 e=>AI e λi c e=>?_;ext e;show uq (YL e1 r) λa x y f g=>?_;subst f;show⟨a,x,y,b,ev,g,ih c rs⟩
theorem Dk.len {d:Cf}{its:Array Value}(r:Dk h d its.toList):d.length=its.size:=r.length.trans Ej
def kX (t u:Dt):=∀(h:Heap) v,Ah h u v->Ah h t v
def xT (l m:List Dt):=∀(h:Heap) vs,Ad h m vs->Ad h l vs
def kY {n:Nat}{u:Dt}{L:Ob}{k:Kt}(e:xS n u L k):To L k (kX (.tp n) u):=by
 show AE e (λm f e=>AG e λhz e=>.end e λh v r=>?_) λe=>AE e (λm f e=>AG e λhz e=>.end e λh v r=>?_) λe=>AA e λd i e=>.end e.2 λh v r=>?_
 · show Bj (Ci f▸r) λa its b c rs=>?_;subst b;show⟨a,its,rfl,c,by rw[<-Ej,<-rs.length];show DF hz⟩
 · show Bj (YK f▸r) λa its b c g=>?_;subst b;show⟨a,its,rfl,c,EX g (DF hz)⟩
 · show Bj (Dp i▸r) λa its b c rs=>?_;subst b;show⟨a,its,rfl,c,rs.len▸e.1⟩
def dU {d}{u}{L}{k}(e:oa d u L k):To L k (kX (.dom d) u):=by
 show AE e (λm b e=>.one e λq h v r=>?_) λe=>AA e λm b e=>AA e λx ex e=>.one e λq h v r=>?_
 · ext q;show Dp b▸r
 · ext q;show Bj (Ci b▸r) λa its c f rs=>?_;subst c;show⟨a,its,rfl,f,Uf ex rs⟩
theorem Ug (t:Dt):∀u L k,og t u L k->To L k (kX t u):=
 bM (P:=λt=>∀u L k,og t u L k->To L k (kX t u)) (R:=λl=>(∀m L k,kW l m L k->To L k (xT l m))/\∀n u L k,dT l n u L k->To L k (∀(h:Heap) v,Ah h u v->Ik h l n v))
  (λZ Z Z e=>.end e λZ Z Z=>trivial) (λx u L k e=>AA e λy b e=>.one e λq h v r=>by ext q;rw[Gw b] at r;show r) (λx u L k e=>AA e λy b e=>.one e λq h v r=>by ext q;rw[YJ b] at r;show r)
  (λx u L k e=>AA e λy b e=>.one e λq h v r=>by ext q;rw[CK b] at r;show r) (λx u L k e=>AA e λy b e=>.one e λq h v r=>by ext q;rw[D6 b] at r;show r)
  (λd u L k e=>dU e) (λn u L k e=>kY e)
  (λl ih u L k e=>AA e λm f e=>(ih.1 _ _ _ e).imp λq h v r=>by rw[Ci f] at r;show Bj r λa its g i rs=>?_;subst g;show⟨a,its,rfl,i,q _ _ rs⟩)
  (λl n ih u L k e=>AE e (λx ex e=>⟨_,e,λq=>let ⟨q1,q⟩:=Ob.cons q;let ⟨c,q⟩:=Ob.cons q;⟨q,λh v r=>by rw[Ue ex] at r;ext q1;ext c;show r⟩⟩) λe=>ih.2 n u L k e)
  ⟨λm L k e=>AAN e λq e=>.end e λh vs r=>q▸r,λZ Z Z Z e=>.end e λZ Z Z=>trivial⟩
  (λt l p ih=>⟨λm L k e=>D8 e λu m q e=>((p _ _ _ e).and λo e=>ih.1 _ _ _ e).imp λ⟨q1,c⟩ h vs r=>by subst q;show Bj r λv j ev r rs=>?_;show⟨v,j,ev,q1 _ _ r,c _ _ rs⟩,λn u L k e=>match n,e with|0,e=>p _ _ _ e|n+1,e=>ih.2 n u L k e⟩) t
end
def oh (js:List Nat)(p i:Nat)(k:Prop):=AD js[p]? λj=>As (Nat.beq j i) k
def leR (js:List Nat)(t u:RD)(L:Ob)(k:Kt):Prop:=match t with
 |.r p=>(match u with|.r i=>oh js p i (k L)|.d _=>False)
 |.d t=>(match u with|.r _=>False|.d u=>og t u L k)
def rp (js:List Nat)(l m:List RD)(L:Ob)(k:Kt):Prop:=match l with|[]=>Rb m (k L)|t::l=>Jl m λu m=>leR js t u L λL=>rp js l m L k
def dV (t:Dt):Bool:=match t with|.any=>true|_=>false
def zH (js:List Nat)(t a:AV)(L:Ob)(k:Kt):Prop:=match t with|.ref p=>AD (Es a) λi=>oh js p i (k L)|.d t=>Bool.rec (AD (Ff a) λu=>og t u L k) (k L) (dV t)|.mt l=>AD (bp a) λm=>rp js l m L k
def dW (js:List Nat)(l m:List AV)(L:Ob)(k:Kt):Prop:=match l with|[]=>Rb m (k L)|t::l=>Jl m λu m=>zH js t u L λL=>dW js l m L k
def leN {K:Type} [BEq K] (js:List Nat)(l m:List (K×AV))(L:Ob)(k:Kt):Prop:=match l with|[]=>Rb m (k L)|x::l=>Jl m λy m=>As (x.1==y.1) (zH js x.2 y.2 L λL=>leN js l m L k)
section
def Bd (js:List Nat)(γ γ':List Addr):=∀p i:Nat,js[p]?=some i->∀a,γ[i]?=some a->γ'[p]?=some a
def SemV (js:List Nat)(t a:AV):=∀γ γ' (h:Heap),Bd js γ γ'->∀v,Cg γ h a v->Cg γ' h t v
def oi (js:List Nat)(t a:List AV):=∀γ γ' (h:Heap),Bd js γ γ'->∀v,AY γ h a v->AY γ' h t v
def SemR (js:List Nat)(t a:RD):=∀γ γ' (h:Heap),Bd js γ γ'->∀v,Qi γ h a v->Qi γ' h t v
def xU (js:List Nat)(t a:List RD):=∀γ γ' (h:Heap),Bd js γ γ'->∀v,Er γ h a v->Er γ' h t v
def SemN {K:Type}(js:List Nat)(t a:List (K×AV)):=∀γ γ' (h:Heap),Bd js γ γ'->∀v:List (K×Value),By γ h a v->By γ' h t v
variable {js:List Nat}{L:Ob}{k:Kt}
theorem Ew {p i:Nat}{k P:Prop}(e:oh js p i k)(q:js[p]?=some i->k->P):P:=AA e λj ej e=>AG e λhb e=>q (LJ hb▸ej) e
theorem rq {t u:RD}(e:leR js t u L k):To L k (SemR js t u):=match t,u,e with|.r _,.r _,e=>Ew e λq e=>.end e λγ γ' h b v r=>AH r λa ev c=>⟨a,ev,b _ _ q _ c⟩|.d _,.d _,e=>(Ug _ _ _ _ e).imp λq Z Z h Z v r=>q h v r
def kZ {l:List RD}:∀ {m:List RD} {L:Ob} {k:Kt},rp js l m L k->To L k (xU js l m):=by
 induction l with
 |nil=>show λe=>AAN e λq e=>.end e λZ Z Z Z Z r=>by subst q;show r
 |cons t l ih=>show λe=>D8 e λu m q e=>((rq e).and λd e=>ih e).imp λ⟨q1,a⟩ _ _ _ b _ r=>by subst q;show Bj r λv c ev r rs=>?_;show⟨v,c,ev,q1 _ _ _ b _ r,a _ _ _ b _ rs⟩
def Uh {t a:AV}(e:zH js t a L k):To L k (SemV js t a):=by
 cases t with
 |ref p=>show AA e λi c e=>Ew e λq e=>.end e λZ Z Z b v r=>by rw[II c] at r;show AH r λx ev ex=>?_;show⟨x,ev,b _ _ q _ ex⟩
 |mt l=>show AA e λm f e=>(kZ e).imp λq Z Z Z b v r=>by rw[Nq f] at r;show Bj r λx its ev g rs=>?_;show⟨x,its,ev,g,q _ _ _ b _ rs⟩
 |d t=>
  have e:(Bool.rec (AD (Ff a) λu=>og t u L k) (k L) (dV t):Prop):=e;cases q:dV t with
  |true=>
   rw[q] at e;cases t with
   |any=>show .end e λZ Z Z Z Z Z=>trivial
   |_=>ext q
  |false=>rw[q] at e;show AA e λu j e=>(Ug _ _ _ _ e).imp λq Z Z h Z v r=>by rw[DM j] at r;show q h v r
def PG {l:List AV}:∀ {m:List AV} {L:Ob} {k:Kt},dW js l m L k->To L k (oi js l m):=by
 induction l with
 |nil=>show λe=>AAN e λq e=>.end e λZ Z Z Z Z r=>by subst q;show r
 |cons t l ih=>show λe=>D8 e λu m q e=>((Uh e).and λd e=>ih e).imp λ⟨q1,a⟩ _ _ _ b _ r=>by subst q;show Bj r λv c ev r rs=>?_;show⟨v,c,ev,q1 _ _ _ b _ r,a _ _ _ b _ rs⟩
def Ui {K:Type} [BEq K] [LawfulBEq K] {l:List (K×AV)}:∀ {m:List (K×AV)} {L:Ob} {k:Kt},leN js l m L k->To L k (SemN js l m):=by
 induction l with
 |nil=>show λe=>AAN e λq e=>.end e λZ Z Z Z Z r=>by subst q;show r
 |cons t l ih=>
  show λe=>D8 e λu m q e=>AG e λa e=>((Uh e).and λd e=>ih e).imp λ⟨q1,c⟩ _ _ _ b _ r=>by
   subst q;obtain⟨v,f,rfl,r,rs⟩:=r.uncons;rw[<-Fz.mp a];show .cons (q1 _ _ _ b _ r) (c _ _ _ b _ rs)
end
def Lf.lj {x y}(e:Lf.l x=Lf.l y):x=y:=by cases e;rfl
def Lf.nj {x y}(e:Lf.n x=Lf.n y):x=y:=by cases e;rfl
def Lf.ij {x y}(e:Lf.i x=Lf.i y):x=y:=by cases e;rfl
def Lf.bj {x y}(e:Lf.b x=Lf.b y):x=y:=by cases e;rfl
def Lf.ej {x y}(e:Lf.e x=Lf.e y):x=y:=by cases e;rfl
def ka (o:AO):Option (Kd×Nat×Int×Nat):=match o with|.kd w k c r=>some (w,k,c,r)|_=>none
def YM {o}{x}(e:ka o=some x):o=.kd x.1 x.2.1 x.2.2.1 x.2.2.2:=by
 show Ap (p:=λx=>o=.kd x.1 x.2.1 x.2.2.1 x.2.2.2) ?_ e;cases o<;>trivial
def Wa (a:List Int):Option (Bool×Bool):=match a with|[]=>some (false,false)|k::r=>Br (Wa r) λx=>Br (kH k) λy=>some (Bool.rec true x.1 y,Bool.rec x.2 true y)
def dX {j}:∀ {x:Bool×Bool},Wa j=some x->DB j x.1 x.2:=by
 induction j with
 |nil=>intro x e;ext e;show⟨λk m=>(nomatch m),λq=>(nomatch q),λq=>(nomatch q)⟩
 |cons k r ih=>
  intro x e;show AI e λy e1 e=>AI e λz a e=>?_;ext e;obtain⟨h1,b,h3⟩:=ih e1;cases Jf a;cases z with
  |false=>show⟨λk m=>(QP.mp m).elim (λq=>.inl ⟨q,rfl⟩) λm=>(h1 k m).imp (λq=>⟨q.1,rfl⟩) id,λZ=>Sg ..,λq=>Zo _ (h3 q)⟩
  |true=>show⟨λk m=>(QP.mp m).elim (λq=>.inr ⟨q,rfl⟩) λm=>(h1 k m).imp id λq=>⟨q.1,rfl⟩,λq=>Zo _ (b q),λZ=>Sg ..⟩
def xV (t:Ty)(es:List El)(ao:AO)(L:Ob)(k:Kt):=AW (IK ao) (λx=>As (Nat.beq x.1.ctorIdx t.ctorIdx) (k ((.l x.2,.l es)::L))) (AD (Lk ao) λm=>AD (dN t m) λx=>k ((.l x,.l es)::L))
def leIs (x:Bool×Bool)(ao:AO)(L:Ob)(k:Kt):=AW (M9 ao) (λy=>k ((.b y.1,.b x.1)::(.b y.2,.b x.2)::L)) (AD (Iq ao) λes=>AD (Wa (es.map (·.1))) λy=>k ((.b y.1,.b x.1)::(.b y.2,.b x.2)::L))
def xW (js:List Nat)(w:Kd)(n:Nat)(c:Int)(r:Nat)(x:Kd×Nat×Int×Nat)(L:Ob)(k:Kt):Prop:=As (Nat.beq x.1.ctorIdx w.ctorIdx) (match w with|.vi=>oh js r x.2.2.2 (k ((.n x.2.1,.n n)::L))|.vn=>oh js r x.2.2.2 (k ((.n x.2.1,.n n)::(.i x.2.2.1,.i c)::L))|_=>k ((.n x.2.1,.n n)::L))
def leSd (w:Kd)(n:Nat)(ao:AO)(L:Ob)(k:Kt):Prop:=match w with|.opt=>AD (X9 ao) λes=>k ((.e es,.e (Il n))::L)|_=>False
def oj (js:List Nat)(v w:Option AV)(L:Ob)(k:Kt):Prop:=match v with
 |none=>(match w with|none=>k L|some _=>False)
 |some a=>AD w λb=>zH js a b L k
def leO (js:List Nat)(t ao:AO)(L:Ob)(k:Kt):Prop:=match t with|.list l=>AD (Lk ao) λm=>dW js l m L k|.tl t es=>xV t es ao L k|.ns l=>AD (Xp ao) λm=>leN js l m L k|.inst C d=>AD (IL ao) λx=>As (Nat.beq x.1 C) (oh js d x.2 (k L))|.cell v=>AD (JY ao) λw=>oj js v w L k|.liter s i=>AD (HO ao) λx=>oh js s x.1 (k ((.n x.2,.n i)::L))|.titer l i=>AD (O3 ao) λx=>kW l x.1 L λL=>k ((.n x.2,.n i)::L)|.riter x n=>AD (Kl ao) λy=>k ((.i y.1,.i x)::(.n y.2,.n n)::L)|.enum s i=>AD (T2 ao) λx=>oh js s x.1 (k ((.n x.2,.n i)::L))|.idict l=>AD (Iq ao) λm=>leN js l m L k|.sdict l=>AD (X9 ao) λm=>leN js l m L k|.iset b c=>leIs (b,c) ao L k|.rng a b=>AD (Q6 ao) λy=>k ((.i y.1,.i a)::(.i y.2,.i b)::L)|.kd w n c r=>AW (ka ao) (λx=>xW js w n c r x L k) (leSd w n ao L k)|.raw es=>AD (bx ao) λxs=>k ((.l xs,.l es)::L)|_=>False
def Kd.idx {w a:Kd}(h:Nat.beq w.ctorIdx a.ctorIdx):w=a:=by
 have h:=LJ h;cases w<;>cases a<;>first|rfl|cases h
section
variable {P:Program}{W:World}{γ γ':List Addr}{h:Heap}{a:Addr}
def I0 {t:Ty}{es:List El}:∀ {vs:List Value},AY γ h (es.map (Ch t)) vs->AY γ' h (es.map (Ch t)) vs:=by
 induction es with
 |nil=>show λr=>r
 |cons e es ih=>show λ⟨v,a,ev,r,rs⟩=>⟨v,a,ev,r,ih rs⟩
theorem Wb {l}{vs}(hl:dW [] l l [] Ob.ok)(r:AY γ h l vs):AY γ' h l vs:=
 AH (PG hl) λZ h1 a=>
 (a h1).2 _ _ _ (λZ Z e=>(nomatch (show (none:Option Nat)=some _ from e))) _ r
def AL.vr {k}(r:AL P W γ h (.list (Oq k)) a):AL P W γ' h (.list (Oq k)) a:=by
 show AH (AL.items (xs:=Oq k) rfl r) λits hp rs=>?_;show .ofItems (xs:=Oq k) rfl hp (Wb (Eq.refl (α:=List Lf) _) rs)
def AL.opt {k}(r:AL P W γ h (.sdict (Il k)) a):AL P W γ' h (.sdict (Il k)) a:=by
 show AH r.sdict λkvs b hd=>?_;show .ofSdict ⟨b.1,Wb ?_ b.2⟩ hd;show n5 rfl rfl rfl rfl (λZ=>rfl) k
def AL.vn {k}{c}{r r'}(hr:∀a,γ[r]?=some a->γ'[r']?=some a)(x:AL P W γ h (.ns (M7 k c r)) a):AL P W γ' h (.ns (M7 k c r')) a:=by
 show Ek x.ns λkvs f hn hz=>?_;show .ofNs ⟨f.1,?_⟩ hn hz;obtain⟨g,w1,e1,i,j,l,m,o,p,s,t,u,v4,v,w,y,z,A,B,C,D,d,E,⟨b,F,G⟩,q⟩:=f.2;show⟨g,w1,e1,i,j,l,m,o,p,s,t,u,v4,v,w,y,z,A,B,C,D,d,E,⟨b,F,hr _ G⟩,?_⟩;have go:∀n:Nat,AY γ h ((Fi n ([]:List (Str×AV)) [] [("divisor",.d (.int 1))]).map (·.2)) d->AY γ' h ((Fi n ([]:List (Str×AV)) [] [("divisor",.d (.int 1))]).map (·.2)) d:=λn q=>match n,q with|0,q=>q|1,q=>q|_+2,q=>q
 show go _ q
theorem om {t:Ty}{es:List El}{m:List AV}(f:∀vs,AY γ h m vs->AY γ h (es.map (Ch t)) vs){ao:AO}(e:items ao=some m)(r:AL P W γ h ao a):AL P W γ' h (.tl t es) a:=
 AH (AL.items e r) λZ hp rs=>.ofItems (xs:=es.map (Ch t)) rfl hp (I0 (f _ rs))
theorem AL.viTo {k r r':Nat}(hr:∀a,γ[r]?=some a->γ'[r']?=some a){C:Addr}(x:AL P W γ h (.inst C r) a):AL P W γ' h (.inst C r') a:=AH x.inst λZ ho hd=>.ofInst ho (hr _ hd)
def AL.kdTo {w:Kd}{k:Nat}{c:Int}{r r':Nat}(hr:Nat.beq w.ctorIdx 0=true∨Nat.beq w.ctorIdx 1->∀a,γ[r]?=some a->γ'[r']?=some a)(x:AL P W γ h (.kd w k c r) a):AL P W γ' h (.kd w k c r') a:=by
 cases w with
 |vi=>show AL.viTo (k:=k) (C:=Lg k) (hr (.inl rfl)) x
 |vn=>show AL.vn (hr (.inr rfl)) x
 |vr=>show AL.vr x
 |opt=>show AL.opt x
def AL.viC {k}{c c':Int}{r}{w}(b:Nat.beq w.ctorIdx 1=false)(x:AL P W γ h (.kd w k c r) a):AL P W γ h (.kd w k c' r) a:=by
 cases w with
 |vi=>show x
 |vn=>ext b
 |vr=>show x
 |opt=>show x
end
def YN (js:List Nat)(t ao:AO):=∀P W γ γ' (h:Heap),Bd js γ γ'->∀a,AL P W γ h ao a->AL P W γ' h t a
section
variable {js:List Nat}
theorem kb {t}{es}{ao}{L}{k}(e:xV t es ao L k):To L k (YN js (.tl t es) ao):=
 AE e (λx ex e=>AG e λq e=>.one e λa Z Z Z Z Z Z Z r=>by
  rw[Bf ex,<-Lj (LJ q),Lf.lj a] at r;show om (λZ r=>r) rfl r) λe=>AA e λm b e=>AA e λx ex e=>.one e λa Z Z Z Z Z Z Z r=>by
  rw[BQ b] at r;show om (λZ r=>Lf.lj a▸RZ ex r) rfl r
def kc {w:Kd}{n:Nat}{c:Int}{r:Nat}{x:Kd×Nat×Int×Nat}{L:Ob}{k:Kt}(e:xW js w n c r x L k):To L k (YN js (.kd w n c r) (.kd x.1 x.2.1 x.2.2.1 x.2.2.2)):=by
 show AG e λg a=>?_;rw[Kd.idx g];cases w with
 |vi=>show Ew a λq a=>.one a λd Z Z Z Z Z b Z r=>by rw[Lf.nj d] at r;show(r.viC rfl).kdTo λZ=>b _ _ q
 |vn=>show Ew a λq a=>⟨_,a,λf=>let ⟨q1,f⟩:=Ob.cons f;let ⟨h,f⟩:=Ob.cons f;⟨f,λZ Z Z Z Z b Z r=>by rw[Lf.nj q1,Lf.ij h] at r;show r.kdTo λZ=>b _ _ q⟩⟩
 |vr=>show .one a λd Z Z Z Z Z b Z r=>by rw[Lf.nj d] at r;show(r.viC rfl).kdTo λz=>z.elim (λz=>(nomatch z)) λz=>(nomatch z)
 |opt=>show .one a λd Z Z Z Z Z b Z r=>by rw[Lf.nj d] at r;show(r.viC rfl).kdTo λz=>z.elim (λz=>(nomatch z)) λz=>(nomatch z)
theorem dY {v w}{L}{k}(e:oj js v w L k):To L k (YN js (.cell v) (.cell w)):=match v,w,e with|none,none,e=>.end e λZ Z Z Z Z Z Z r=>Bj r λo vs ho hd Z=>.ofCell0 ⟨o,ho,hd⟩|some _,some _,e=>(Uh e).imp λq Z Z Z Z Z b Z r=>AH r.cell λZ hc a=>.ofCell hc (q _ _ _ b _ a)
def rz {t ao:AO}{L:Ob}{k:Kt}(e:leO js t ao L k):To L k (YN js t ao):=by
 cases t with
 |list l=>show AA e λm g e=>(PG e).imp λq Z Z Z Z Z b Z r=>AH (AL.items (xs:=m) (by show(BQ g)▸?_;rfl) r) λits hp rs=>.ofItems (xs:=l) rfl hp (q _ _ _ b _ rs)
 |tl t es=>show kb e
 |ns l=>show AA e λm g e=>(Ui e).imp λq Z Z Z Z Z b Z r=>Ek ((Nj g▸r:AL _ _ _ _ (.ns m) _).ns) λkvs h hn hz=>.ofNs (q _ _ _ b _ h) hn hz
 |inst C d=>
  show AA e λx ex e=>AG e λq e=>Ew e λo e=>.end e λZ Z Z Z Z b Z r=>by
   rw[FD ex] at r;show AH r.inst λK ho hd=>?_;rw[LJ q] at ho;show .ofInst ho (b _ _ o _ hd)
 |cell v=>show AA e λw E e=>KD E▸dY e
 |raw es=>
  show AA e λxs ex e=>.one e λf Z Z Z Z Z Z Z r=>by
   rw[Ls ex,Lf.lj f] at r;show Bj r λx vs ho q rs=>⟨x,vs,ho,q,I0 rs⟩
 |liter s i=>
  show AA e λx ex e=>Ew e λo e=>.one e λf Z Z Z Z Z b Z r=>by
   rw[F9 ex,Lf.nj f] at r;show AH r.liter λl hi u=>?_;show .ofLiter hi (b _ _ o _ u)
 |titer l i=>
  show AA e λx ex e=>?_;have e:og (.tup l) (.tup x.1) L (λL=>k ((.n x.2,.n i)::L)):=e;show((Ug _ _ _ _ e).and (q:=x.2=i) λM e=>.one e λf=>Lf.nj f).imp λ⟨q,f⟩ _ _ _ _ _ _ _ r=>?_;rw[Iu ex,f] at r;show Bj r.titer λt its hi F hx=>?_;show Bj (q _ (.ref t) ⟨t,its,rfl,F,hx⟩) λN D G A B=>?_;ext G;show .ofTiter hi A B
 |riter x n=>show AA e λy H e=>⟨_,e,λa=>let ⟨q1,a⟩:=Ob.cons a;let ⟨j,a⟩:=Ob.cons a;⟨a,λZ Z Z Z Z Z Z r=>by rw[Iv H,Lf.ij q1,Lf.nj j] at r;show .ofRiter r.riter⟩⟩
 |enum s i=>
  show AA e λx ex e=>Ew e λo e=>.one e λf Z Z Z Z Z b Z r=>by
   rw[KI ex,Lf.nj f] at r;show Hi r.enum λl old hi u=>?_;show .ofEnum hi (b _ _ o _ u)
 |idict l=>show AA e λm g e=>(Ui e).imp λq Z Z Z Z Z b Z r=>AH ((CH g▸r:AL _ _ _ _ (.idict m) _).idict) λkvs h hd=>.ofIdict (q _ _ _ b _ h) hd
 |sdict l=>show AA e λm g e=>(Ui e).imp λq Z Z Z Z Z b Z r=>AH ((HQ g▸r:AL _ _ _ _ (.sdict m) _).sdict) λkvs h hd=>.ofSdict (q _ _ _ b _ h) hd
 |iset x y=>
  show AE e (λz p e=>⟨_,e,λa=>let ⟨q1,a⟩:=Ob.cons a;let ⟨j,a⟩:=Ob.cons a;⟨a,λZ Z Z Z Z Z Z r=>?_⟩⟩) λe=>AA e λes p e=>AA e λz I e=>⟨_,e,λa=>let ⟨q1,a⟩:=Ob.cons a;let ⟨j,a⟩:=Ob.cons a;⟨a,λZ Z Z Z Z Z Z r=>?_⟩⟩
  · rw[DU p,Lf.bj q1,Lf.bj j] at r;show AH r.iset λkvs hk hd=>?_;show .ofIset hk hd
  · show AH ((CH p▸r:AL _ _ _ _ (.idict es) _).idict) λkvs h hd=>?_;have hk:=dX I;rw[Lf.bj q1,Lf.bj j] at hk;show .ofIset (by show(h.1)▸?_;show hk) hd
 |rng x y=>show AA e λz p e=>⟨_,e,λa=>let ⟨q1,a⟩:=Ob.cons a;let ⟨j,a⟩:=Ob.cons a;⟨a,λZ Z Z Z Z Z Z r=>by rw[GA p,Lf.ij q1,Lf.ij j] at r;let ⟨_,_,_,q⟩:=r.rng;show .ofRng q⟩⟩
 |kd w n c r'=>
  show AE e (λx ex e=>YM ex▸kc e) λe=>?_;cases w with
  |opt=>show AA e λes J e=>.one e λf Z Z Z Z Z Z Z r=>by rw[HQ J,Lf.ej f] at r;show AL.opt r
  |_=>show e.elim
 |_=>show e.elim
end
def Wc (js:List Nat)(σ:AC):=js.map λj=>(σ[j]?).getD none
def uW (js:List Nat)(ts a:AC)(L:Ob)(k:Kt):Prop:=match ts with|[]=>k L|t::ts=>Jl a λc a=>Option.rec (uW js ts a L k) (λt=>AD c λo=>leO js t o L λL=>uW js ts a L k) t
def r7 (js:List Nat)(ts a:AC):=∀(p:Nat) (t:AO),ts[p]?=some (some t)->∃o,a[p]?=some (some o)/\YN js t o
def ke (j:Nat)(ts:AC)(js:List Nat):Bool:=match ts with|[]=>true|t::ts=>match js with|[]=>true|i::js=>Option.rec (ke j ts js) (λZ=>!(Nat.beq i j)&&ke j ts js) t
def PH (ts:AC)(js:List Nat):Bool:=match ts with|[]=>true|t::ts=>match js with|[]=>true|j::js=>Option.rec (PH ts js) (λZ=>ke j ts js&&PH ts js) t
def ltB (n:Nat)(js:List Nat):Bool:=match js with|[]=>true|j::js=>Nat.blt j n&&ltB n js
def r8 (n p:Nat)(js:List Nat):Bool:=match n with|0=>true|n+1=>match js with|[]=>false|j::js=>Nat.beq j p&&r8 n (p+1) js
structure Mz (js:List Nat) (n:Nat) (as:List AV) (σ:AC) (ta:List AV) (tc:AC):Prop where
 le:oi js ta as
 lc:r7 js tc (Wc js σ)
 len:js.length=tc.length
 lt:∀p j:Nat,js[p]?=some j->j<σ.length
 nd:∀(p q i:Nat) (t u:AO),live tc p t->live tc q u->js[p]?=some i->js[q]?=some i->p=q
 id:∀p:Nat,p<n->js[p]?=some p
abbrev Bn:=List (Nat×Nat)
def r9 (p i:Nat)(B:Bn):Bn:=Option.rec ((p,i)::B) (λZ=>B) (B.lookup p)
def dZ (l m:List RD)(B:Bn):Bn:=match l with
 |[]=>B
 |t::l=>match m with
  |[]=>B
  |u::m=>dZ l m (match t with
   |.r p=>(match u with|.r i=>r9 p i B|.d _=>B)
   |.d _=>B)
def xX (t a:AV)(B:Bn):Bn:=match t with|.ref p=>Option.rec B (λi=>r9 p i B) (Es a)|.d _=>B|.mt l=>Option.rec B (λm=>dZ l m B) (bp a)
def Uj (l m:List AV)(B:Bn):Bn:=match l with|[]=>B|t::l=>match m with|[]=>B|u::m=>Uj l m (xX t u B)
def xY (w:Kd)(r:Nat)(ao:AO)(B:Bn):Bn:=match w with|.vr=>B|.opt=>B|_=>Option.rec B (λx=>r9 r x.2.2.2 B) (ka ao)
def xZ (t ao:AO)(B:Bn):Bn:=match t with|.tl _ _=>B|.raw _=>B|.iset _ _=>B|.kd w _ _ r=>xY w r ao B|t=>Uj t.vals ao.vals B
def oo (p:Nat)(ts σ:AC)(B:Bn):Bn:=match ts with|[]=>B|t::ts=>oo (p+1) ts σ (Option.rec B (λt=>Option.rec B (λi=>Option.rec B (λao=>xZ t ao B) (Br σ[i]? id)) (B.lookup p)) t)
def idB (n p:Nat):Bn:=match n with|0=>[]|n+1=>(p,p)::idB n (p+1)
def xa (n p a:Nat)(B:Bn):List Nat:=match n with|0=>[]|n+1=>(B.lookup p).getD a::xa n (p+1) a B
def xb (n:Nat)(ta as:List AV)(tc σ:AC):List Nat:=xa tc.length 0 σ.length (oo 0 tc σ (Uj ta as (idB n 0)))
def mdO (m:Nat)(l:List Dt):Bool:=match l with|[]=>false|t::_=>match t with|.tup _=>Nat.blt 0 m&&Nat.blt m 3|.v _=>Nat.beq m 2|_=>false
mutual
noncomputable def zI (m:Nat)(t:Dt)(L:List Lf):List Lf:=match t with|.any=>L|.v x=>.v x::L|.pr p=>.p p::L|.int i=>.i i::L|.str s=>.s s::L|.tup l=>sA m l L|.dom d=>.d d::L|.tp _=>L|.sel l n=>Bool.rec (.t l::.n n::L) (oq m l n L) (mdO m l)
noncomputable def sA (m:Nat)(l:List Dt)(L:List Lf):List Lf:=match l with|[]=>L|t::l=>sA m l (zI m t L)
noncomputable def oq (m:Nat)(l:List Dt)(n:Nat)(L:List Lf):List Lf:=match l with|[]=>L|t::l=>match n with|0=>zI m t L|n+1=>oq m l n L
end
def xc (m:Nat)(l:List RD)(L:List Lf):List Lf:=match l with|[]=>L|t::l=>xc m l (match t with|.r _=>L|.d t=>zI m t L)
def lfV (m:Nat)(a:AV)(L:List Lf):List Lf:=match a with|.ref _=>L|.d t=>zI m t L|.mt l=>xc m l L
def sB (m:Nat)(l:List AV)(L:List Lf):List Lf:=match l with|[]=>L|t::l=>sB m l (lfV m t L)
def zJ {K:Type}(m:Nat)(l:List (K×AV))(L:List Lf):List Lf:=match l with|[]=>L|x::l=>zJ m l (lfV m x.2 L)
def lfK (m:Nat)(w:Kd)(n:Nat)(c:Int)(L:List Lf):List Lf:=match w with|.opt=>Bool.rec (.n n::L) (.e (Il n)::L) (Nat.beq m 3)|.vn=>.n n::.i c::L|_=>.n n::L
def lfO (m:Nat)(o:AO)(L:List Lf):List Lf:=match o with|.list l=>sB m l L|.tl _ es=>.l es::L|.raw es=>.l es::L|.ns l=>zJ m l L|.cell v=>Option.rec L (λa=>lfV m a L) v|.liter _ i=>.n i::L|.titer l i=>.n i::sA m l L|.riter x n=>.i x::.n n::L|.enum _ i=>.n i::L|.idict l=>zJ m l L|.sdict l=>zJ m l L|.iset b c=>.b b::.b c::L|.rng a b=>.i a::.i b::L|.kd w n c _=>lfK m w n c L|_=>L
def lfC (m:Nat)(ts:AC)(L:List Lf):List Lf:=match ts with|[]=>L|t::ts=>lfC m ts (Option.rec L (λo=>lfO m o L) t)
def LO (m:Nat)(as:List AV)(ts:AC):=lfC m ts (sB m as [])
def okT (_:List Lf)(L:Ob):=L.ok
def xd (js:List Nat)(n:Nat)(as:List AV)(σ:AC)(ta:List AV)(tc:AC)(M:List Lf)(k:Prop):Prop:=
 As ((PH tc js&&ltB σ.length js)&&(r8 n 0 js&&Nat.beq js.length tc.length)) (dW js ta as [] λL=>uW js tc (Wc js σ) L λL=>okT M L/\k)
def G6 {P:Type}(n:Nat)(d:P)(args:P->List AV)(cells:P->AC)(ext:List AV->AC->P)(lo:P->List Lf)(as:List AV)(σ:AC)(k:P->List Nat->Prop):Prop:=
 (λjs=>(λp=>xd js n as σ (args p) (cells p) (lo p) (k p js)) (ext as (Wc js σ))) (xb n (args d) as (cells d) σ)
def Cz (γ:List Addr)(js:List Nat):=js.map λj=>γ.getD j 0
def and4 (h:((a&&b)&&(c&&d))):a/\b/\c/\d:=by
 cases a<;>cases b<;>cases c<;>cases d<;>first|show⟨rfl,rfl,rfl,rfl⟩|ext h
def Wd {j}:∀ {ts:AC} {js:List Nat},ke j ts js->∀(q:Nat) (t:AO),live ts q t->js[q]?≠some j:=by
 intro ts
 induction ts with
 |nil=>intro js _ q t h;show(nomatch h)
 |cons x ts ih=>
  intro js h q t hl e;cases js with
  |nil=>show(nomatch e)
  |cons i js=>
   cases x with
   |none=>
    cases q with
    |zero=>show(nomatch hl)
    |succ q=>show ih (js:=js) h q t hl e
   |some x=>
    have h1:=aL h;have a:=aR h;cases q with
    |zero=>ext e;rw[Nat.beq_refl] at h1;ext h1
    |succ q=>show ih a q t hl e
def YO:∀ {ts:AC} {js:List Nat},PH ts js->∀(p q i:Nat) (t u:AO),live ts p t->live ts q u->js[p]?=some i->js[q]?=some i->p=q:=by
 intro ts
 induction ts with
 |nil=>intro js _ p q i t u h;show(nomatch h)
 |cons x ts ih=>
  intro js h p q i t u hp hq e1 a;cases js with
  |nil=>show(nomatch e1)
  |cons j js=>
   cases x with
   |none=>
    cases p with
    |zero=>show(nomatch hp)
    |succ p=>
     cases q with
     |zero=>show(nomatch hq)
     |succ q=>show congrArg (· +1) (ih (js:=js) h p q i t u hp hq e1 a)
   |some x=>
    have h1:=aL h;have b:=aR h;cases p with
    |zero=>
     ext e1;cases q with
     |zero=>rfl
     |succ q=>show absurd a (Wd h1 q u hq)
    |succ p=>
     cases q with
     |zero=>ext a;show absurd e1 (Wd h1 p t hp)
     |succ q=>show congrArg (· +1) (ih b p q i t u hp hq e1 a)
def sC {n}:∀ {js:List Nat},ltB n js->∀p j:Nat,js[p]?=some j->j<n:=by
 intro js
 induction js with
 |nil=>show λZ p j e=>(nomatch e)
 |cons i js ih=>
  intro h p j e;have h1:=aL h;have a:=aR h;cases p with
  |zero=>ext e;show DF h1
  |succ p=>show ih a p j e
def kf:∀ {n p:Nat} {js:List Nat},r8 n p js->∀q:Nat,q<n->js[q]?=some (p+q):=by
 intro n
 induction n with
 |zero=>show λZ q h=>(nomatch h)
 |succ n ih=>
  intro p js h q hq;cases js with
  |nil=>ext h
  |cons j js=>
   have h1:=aL h;have a:=aR h;cases q with
   |zero=>rw[<-LJ h1];rfl
   |succ q=>
    have:=ih a q (Nat.lt_of_succ_lt_succ hq);rw[Nat.add_right_comm] at this;show this
def db:∀ {ts a:AC} {L:Ob} {k:Kt},uW js ts a L k->To L k (r7 js ts a):=by
 intro ts
 induction ts with
 |nil=>intro a L k h;show .end h λp t e=>(nomatch e)
 |cons x ts ih=>
  intro a L k h;show D8 h λc a q h=>?_;subst q;cases x with
  |none=>
   show(ih h).imp λg p t e=>?_;cases p with
   |zero=>cases e
   |succ p=>show g p t e
  |some x=>
   show AA h λo b h=>?_;show((rz h).and λf h=>ih h).imp λ⟨d,g⟩ p t e=>?_;cases p with
   |zero=>cases e;show⟨o,by show(b)▸?_;rfl,d⟩
   |succ p=>show g p t e
theorem YQ {js}{n:Nat}{as}{σ:AC}{ta}{tc:AC}{M}{k P:Prop}(h:xd js n as σ ta tc M k)(q:Mz js n as σ ta tc->k->P):P:=
 AG h λhb h=>M2 (and4 hb) λb1 a b c=>
  let ⟨_,⟨ho,hk⟩,f⟩:=(PG h).and λZ h=>db h
  QR (f ho) λZ h1 d=>
  q ⟨h1,d,LJ c,sC a,YO b1,λp hp=>(kf b p hp).trans (by rw[Nat.zero_add])⟩ hk
theorem B4 {P:Type}{n:Nat}{d:P}{args:P->List AV}{cells:P->AC}{ext:List AV->AC->P}{lo:P->List Lf}{as}{σ:AC}{k:P->List Nat->Prop}{G:Prop}(h:G6 n d args cells ext lo as σ k)(q:∀p js,Mz js n as σ (args p) (cells p)->k p js->G):G:=YQ h (q _ _)
def HU {γ}{js}{p i:Nat}(e:js[p]?=some i):(Cz γ js)[p]?=some (γ.getD i 0):=by
 unfold Cz;rw[Vm,e];rfl
def N4 {γ:List Addr}{i:Nat}{a:Addr}(e:γ[i]?=some a):γ.getD i 0=a:=by
 rw[NS,e];rfl
theorem PI (γ:List Addr)(js:List Nat):Bd js γ (Cz γ js):=λp i e a b=>by rw[HU e,N4 b]
section
variable {S:St}{c:At S}{js:List Nat}{n:Nat}{as ta:List AV}{tc:AC}
def Mz.live (F:Mz js n as c.σ ta tc){p}{t}(e:live tc p t):∃i ao,js[p]?=some i/\live c.σ i ao/\YN js t ao:=by
 show AH (F.lc p t e) λo a l=>?_;unfold Wc at a;rw[Vm] at a;cases q:js[p]? with
 |none=>rw[q] at a;ext a
 |some i=>
  rw[q] at a;have a:(c.σ[i]?).getD none=some o:=M1 a;show⟨i,o,rfl,?_,l⟩;cases z:c.σ[i]? with
  |none=>rw[z] at a;ext a
  |some x=>rw[z] at a;cases (show x=some o from a);show z
def Mz.gam (F:Mz js n as c.σ ta tc){p i:Nat}{a:Addr}(e:js[p]?=some i)(b:(Cz c.γ js)[p]?=some a):c.γ[i]?=some a:=by
 rw[HU e] at b;have hl:i<c.γ.length:=c.R.len▸F.lt p i e;rw[<-M1 b,NS,FA hl];rfl
def Mz.rep (F:Mz js n as c.σ ta tc){S':St}(hp:S'.prog=S.prog)(f:S'.w=S.w)(ho:S'.os=S.os)(keep:∀b o,S'.h₀.get? b=some o->c.h.get? b=some o)(fr:∀b∈Cz c.γ js,S'.h₀.get? b=none):FC S' (Cz c.γ js) tc c.s:=by
 show⟨keep,by unfold Cz;rw[Ei,F.len],λp t a e g=>?_,fr,λp q t u a e1 d h k=>?_,c.R.gens,c.R.os.trans ho.symm⟩
 · show Bj (F.live e) λi ao e1 d l=>?_;rw[hp,f];show l _ _ _ _ _ (PI c.γ js) _ (c.R.cells i ao a d (F.gam e1 g))
 · show Bj (F.live e1) λi ao f1 m Z=>?_;show Bj (F.live d) λj ao' g1 g2 Z=>?_;have:=c.R.apart i j ao ao' a m g2 (F.gam f1 h) (F.gam g1 k);show F.nd p q i t u e1 d f1 (this▸g1)
def Mz.mem (F:Mz js n as c.σ ta tc){b}(hb:b∈Cz c.γ js):b∈c.γ:=by
 show AH (Zs.mp hb) λj a d=>?_;subst d;obtain⟨p,hp⟩:=ul.mp a;have hl:j<c.γ.length:=c.R.len▸F.lt p j hp;rw[NS,FA hl];show Zu hl
def Mz.at (F:Mz js n as c.σ ta tc):At S:=⟨Cz c.γ js,tc,c.s,F.rep rfl rfl rfl c.R.keep λb hb=>c.R.fresh b (F.mem hb)⟩
theorem Mz.vrs (F:Mz js n as c.σ ta tc){vs}(r:c.VRs as vs):AY (Cz c.γ js) c.h ta vs:=F.le _ _ _ (PI c.γ js) _ r
def sD (h:∀p:Nat,p<γ.length->γ'[p]?=γ[p]?):Ka γ γ':=by
 show⟨γ'.drop γ.length,List.ext_getElem? λp=>?_⟩
 by_cases hp:p<γ.length
 · show(mx hp)▸?_;show h p hp
 · rw[uh (jF hp),List.getElem?_drop,uf (jF hp)]
def Mz.get (F:Mz js n as c.σ ta tc){p:Nat}(hp:p<n){a:Addr}(b:c.γ[p]?=some a):(Cz c.γ js)[p]?=some a:=by rw[HU (F.id p hp),N4 b]
theorem Mz.le0 (F:Mz js n as c.σ ta tc){a:At S}(l:a.le c)(hn:a.γ.length=n):a.le F.at:=
 ⟨sD λp hp=>by
   have e:=FA hp;show(e)▸?_;show F.get (hn▸hp) (l.pre.get e),l.tk⟩
end
def bkR (f:Nat->Nat)(x:RD):RD:=match x with|.r i=>.r (f i)|.d t=>.d t
def or (f:Nat->Nat)(a:AV):AV:=match a with|.ref p=>.ref (f p)|.d t=>.d t|.mt l=>.mt (l.map (bkR f))
def uX {K:Type}(f:Nat->Nat)(l:List (K×AV)):=l.map λx=>(x.1,or f x.2)
def uY (f:Nat->Nat)(o:AO):AO:=match o with|.list l=>.list (l.map (or f))|.ns l=>.ns (uX f l)|.inst C d=>.inst C (f d)|.cell v=>.cell (v.map (or f))|.liter s i=>.liter (f s) i|.enum s i=>.enum (f s) i|.idict l=>.idict (uX f l)|.sdict l=>.sdict (uX f l)|.kd w k c r=>.kd w k c (f r)|.tl t l=>.tl t l|.titer l i=>.titer l i|.riter x n=>.riter x n|.iset x y=>.iset x y|.rng x y=>.rng x y|.raw o=>.raw o|.edict l n=>.edict (uX f l) n|.kiter d i n e=>.kiter (f d) i n e
section
variable {P:Program}{W:World}{γ γ':List Addr}{h:Heap}{f:Nat->Nat}(hf:∀p a,γ[p]?=some a->γ'[f p]?=some a)
include hf
def dc:∀ {vs:List Value},Er γ h l vs->Er γ' h (l.map (bkR f)) vs:=by
 induction l with
 |nil=>show λr=>r
 |cons x l ih=>show λ⟨v,b,ev,r,rs⟩=>⟨v,b,ev,match x,r with|.r _,⟨a,e,i⟩=>⟨a,e,hf _ _ i⟩|.d _,r=>r,ih rs⟩
theorem PJ (r:Cg γ h a v):Cg γ' h (or f a) v:=match a,r with|.ref _,⟨a,e,i⟩=>⟨a,e,hf _ _ i⟩|.d _,r=>r|.mt _,⟨a,its,e,b,rs⟩=>⟨a,its,e,b,dc hf rs⟩
def Rc:∀ {vs:List Value},AY γ h l vs->AY γ' h (l.map (or f)) vs:=by
 induction l with
 |nil=>show λr=>r
 |cons x l ih=>show λ⟨v,a,ev,r,rs⟩=>⟨v,a,ev,PJ hf r,ih rs⟩
def Kr {K:Type} [BEq K] {l:List (K×AV)}{kvs:List (K×Value)}(r:By γ h l kvs):By γ' h (uX f l) kvs:=by
 unfold uX;show⟨by rw[List.map_map];show r.1,?_⟩;have:=Rc hf r.2;rw[List.map_map] at this ⊢;show this
def kg (r:AL P W γ h o a):AL P W γ' h (uY f o) a:=by
 cases o with
 |list l=>let ⟨_,hp,rs⟩:=AL.items (xs:=l) rfl r;show .ofItems (xs:=l.map (or f)) rfl hp (Rc hf rs)
 |ns l=>let ⟨_,b,hn,hz⟩:=r.ns;show .ofNs (Kr hf b) hn hz
 |inst C d=>let ⟨_,ho,hd⟩:=r.inst;show .ofInst ho (hf _ _ hd)
 |cell v=>
  cases v with
  |none=>let ⟨o,vs,ho,hd,_⟩:=r;show .ofCell0 ⟨o,ho,hd⟩
  |some x=>let ⟨_,hc,j⟩:=r.cell;show .ofCell hc (PJ hf j)
 |liter s i=>let ⟨_,hi,g⟩:=r.liter;show .ofLiter hi (hf _ _ g)
 |enum s i=>let ⟨_,_,hi,g⟩:=r.enum;show .ofEnum hi (hf _ _ g)
 |idict l=>let ⟨_,b,hd⟩:=r.idict;show .ofIdict (Kr hf b) hd
 |sdict l=>let ⟨_,b,hd⟩:=r.sdict;show .ofSdict (Kr hf b) hd
 |kd w k c r'=>show r.kdTo λZ=>hf _
 |tl t l=>let ⟨_,hp,rs⟩:=AL.items (xs:=l.map (Ch t)) rfl r;show .ofItems (xs:=l.map (Ch t)) rfl hp (I0 rs)
 |titer l i=>let ⟨_,_,hi,m,hx⟩:=r.titer;show .ofTiter hi m hx
 |riter x n=>show .ofRiter r.riter
 |iset x y=>let ⟨_,hk,hd⟩:=r.iset;show .ofIset hk hd
 |rng x y=>let ⟨_,_,_,q⟩:=r.rng;show .ofRng q
 |raw o=>let ⟨x,vs,ho,q,rs⟩:=r;show⟨x,vs,ho,q,I0 rs⟩
 |edict l n=>let ⟨_,b,hd⟩:=r.edict;show .ofEdict (Kr hf b) hd
 |kiter d i n e=>let ⟨_,hi,g⟩:=r.kiter;show .ofKiter hi (hf _ _ g)
end
def Gi (js:List Nat)(len p:Nat):=(js[p]?).getD (len+(p-js.length))
def N5 (i:Nat)(js:List Nat)(p:Nat):Option Nat:=match js with|[]=>none|j::js=>Bool.rec (N5 i js (p+1)) (some p) (Nat.beq j i)
def mg1 (js:List Nat)(out:AC)(f:Nat->Nat)(i:Nat)(c:Option AO):Option AO:=Option.rec c (λp=>Br (Br out[p]? id) λo=>some (uY f o)) (N5 i js 0)
def zK (js:List Nat)(out:AC)(f:Nat->Nat)(i:Nat)(σ:AC):AC:=match σ with|[]=>[]|c::σ=>mg1 js out f i c::zK js out f (i+1) σ
def zL (f:Nat->Nat)(σ:AC):AC:=match σ with|[]=>[]|c::σ=>Br c (λo=>some (uY f o))::zL f σ
def ML (js:List Nat)(σ out:AC):=zK js out (Gi js σ.length) 0 σ++zL (Gi js σ.length) (out.drop js.length)
def Uk {i}:∀ {js:List Nat} {p r:Nat},N5 i js p=some r->∃q,r=p+q/\js[q]?=some i:=by
 intro js
 induction js with
 |nil=>intro p r h;ext h
 |cons j js ih=>
  intro p r h;show DN h (λe h=>?_) λh=>?_
  · ext h;show⟨0,rfl,by rw[<-LJ e];rfl⟩
  · obtain⟨q,h1,a⟩:=ih h;show⟨q+1,by lia,a⟩
def Ul {i}:∀ {js:List Nat} {p:Nat},N5 i js p=none->∀q:Nat,js[q]?≠some i:=by
 intro js
 induction js with
 |nil=>show λZ q e=>(nomatch e)
 |cons j js ih=>
  intro p h q hq;have h:(Bool.rec (N5 i js (p+1)) (some p) (Nat.beq j i):Option Nat)=none:=h;cases e:Nat.beq j i with
  |true=>rw[e] at h;ext h
  |false=>
   rw[e] at h;cases q with
   |zero=>ext hq;rw[Nat.beq_refl] at e;ext e
   |succ q=>show ih h q hq
def kh:∀ {σ:AC} {i q:Nat},(zK js out f i σ)[q]?=(σ[q]?).map (mg1 js out f (i+q)):=by
 intro σ
 induction σ with
 |nil=>intro i q;rfl
 |cons c r ih=>
  intro i q;cases q with
  |zero=>rfl
  |succ q=>rw[show i+(q+1)=i+1+q from by lia];show ih
def GF:∀ {σ:AC} {i:Nat},(zK js out f i σ).length=σ.length:=by
 intro σ
 induction σ with
 |nil=>intro i;rfl
 |cons c r ih=>intro i;show congrArg (· +1) ih
def ki:∀ {σ:AC} {q:Nat},(zL f σ)[q]?=(σ[q]?).map λc=>Br c λo=>some (uY f o):=by
 intro σ
 induction σ with
 |nil=>intro q;rfl
 |cons c r ih=>
  intro q;cases q with
  |zero=>rfl
  |succ q=>show ih
def Um:∀ {σ:AC},(zL f σ).length=σ.length:=by
 intro σ
 induction σ with
 |nil=>rfl
 |cons c r ih=>show congrArg (· +1) ih
def PK js σ out:(ML js σ out).length=σ.length+(out.length-js.length):=by
 unfold ML;rw[JT,GF,Um,List.length_drop]
def Rd {js}{len p i}(e:js[p]?=some i):Gi js len p=i:=by unfold Gi;rw[e];rfl
def Jm {js}{σ out}{i}{ao}(h:live (ML js σ out) i ao):(i<σ.length/\(∀q:Nat,js[q]?≠some i)/\live σ i ao)∨∃p ao',live out p ao'/\ao=uY (Gi js σ.length) ao'/\Gi js σ.length p=i:=by
 unfold live ML at h
 by_cases hi:i<σ.length
 · rw[mx (by rw[GF];show hi),kh,Nat.zero_add] at h;show AH (XX.mp h) λc a h=>?_;unfold mg1 at h;cases d:N5 i js 0 with
   |none=>
    rw[d] at h;cases (show c=some ao from h);show .inl ⟨hi,Ul d,a⟩
   |some p=>
    rw[d] at h;show AH (Uk d) λq' e1 f=>?_;rw[Nat.zero_add] at e1;subst e1;show AI h λo b h=>AI b λco a b=>by
     ext h;cases (show co=some o from b);show .inr ⟨p,o,a,rfl,Rd f⟩
 · rw[uh (by rw[GF];show jF hi),GF,ki,List.getElem?_drop] at h;show AH (XX.mp h) λc a h=>?_;show AI h λo b h=>?_;ext h;subst b;show .inr ⟨_,o,a,rfl,?_⟩;unfold Gi;rw[uH (AAd ..)];show(congrArg (σ.length+ ·) (Nat.add_sub_cancel_left ..)).trans (uf (jF hi))
def Un (as:List Addr)(i:Nat)(o:Obj):Obj:=Bool.rec o {o with data:=.freed} (as.contains i)
def wo (h:Heap)(as:List Addr):Heap:=⟨h.objs.mapIdx (Un as),h.life⟩
def Dq h {as}{a}(q:as.contains a=false):(wo h as).get? a=h.get? a:=by
 unfold wo Heap.get?;dsimp only;rw[Array.getElem?_mapIdx];cases h.objs[a]? with
 |none=>rfl
 |some o=>rw[Option.map_some];unfold Un;rw[q]
def N6 h {as}{a}(q:as.contains a):(wo h as).get? a=none:=by
 unfold wo Heap.get?;dsimp only;rw[Array.getElem?_mapIdx];cases h.objs[a]? with
 |none=>rfl
 |some o=>rw[Option.map_some];unfold Un;rw[q]
def HV (e:(wo h as).get? a=some o):h.get? a=some o:=by
 cases q:as.contains a with
 |false=>rwa [Dq h q] at e
 |true=>rw[N6 h q] at e;ext e
structure Grows (S S':St):Prop where
 prog:S'.prog=S.prog
 w:S'.w=S.w
 mg:S'.mg=S.mg
 mb:S'.mb=S.mb
 keep:∀b o,S.h₀.get? b=some o->S'.h₀.get? b=some o
theorem Grows.refl S:Grows S S:=⟨rfl,rfl,rfl,rfl,λZ Z e=>e⟩
theorem Grows.trans (x:Grows S S')(y:Grows S' S''):Grows S S'':=⟨y.prog.trans x.prog,y.w.trans x.w,y.mg.trans x.mg,y.mb.trans x.mb,λb o e=>y.keep _ _ (x.keep _ _ e)⟩
theorem BX.grow {K}{S S'}{T}(H:BX K S T)(g:Grows S S'):BX K S' T where
 X:=H.X.keeps g.keep
 glob:=λx av e=>AH (H.glob x av e) λv h1 h=>⟨v,by rw[g.mg];show h1,h.mono (.refl _) (.keeps g.keep)⟩
 blt:=λx p e=>by rw[g.mg,g.mb];show H.blt x p e
 fns:=λf F e=>{H.fns f F e with
  obj:=AH (H.fns f F e).obj λo ho hd=>⟨o,g.keep _ _ ho,hd⟩
  rec_:=py (H.fns f F e).rec_ λc i a j hc b d hq=>⟨c,i,a,j,hc,g.keep _ _ b,d,hq⟩}
 meths:=H.meths
 cls:=H.cls
 sets:=H.sets
 virt:=H.virt
structure Re (P:Type) where
 Q:Type
 d:Q
 res:P->Q->AV
 cells:P->Q->AC
 post:P->Q->Prop
 ext:P->AV->AC->Q
 sel:AV->AC->Bool
structure Spec where
 P:Type
 d:P
 args:P->List AV
 cells:P->AC
 pre:P->Prop
 ext:List AV->AC->P
 outs:List (Re P)
def LA (sp:Spec)(p:sp.P):=LO 0 (sp.args p) (sp.cells p)
def LX {P:Type}(m:Nat)(o:Re P)(p:P)(q:o.Q):=LO m [o.res p q] (o.cells p q)
def hdV (l:List AV):AV:=match l with|[]=>.d .any|a::_=>a
def Gj {P:Type}(n:Nat)(p:P)(av:AV)(σ:AC)(outs:List (Re P)):Prop:=match outs with|[]=>False|o::outs=>Bool.rec (Gj n p av σ outs) (G6 n o.d (λq=>[o.res p q]) (o.cells p) (λl σ=>o.ext p (hdV l) σ) (LX 0 o p) [av] σ λq Z=>o.post p q) (o.sel av σ)
def We (T:Hj)(Z:Jd)(n:Nat)(a:Addr)(sp:Spec)(p:sp.P):Prop:=
 AD (T.fns.lookup a) λF=>fnA (run T Z n) a F (sp.args p) (sp.cells p) λav σ=>Gj (sp.cells p).length p av σ sp.outs
def Rf {P:Type}(outs:List (Re P))(p:P)(av:AV)(σ:AC):=∃o,o∈outs/\∃q,o.post p q/\av=o.res p q/\σ=o.cells p q
def DR (S:St)(m:Nat)(a:Addr)(sp:Spec):=∀p,sp.pre p->∀c:At S,c.σ=sp.cells p->∀vs,c.VRs (sp.args p) vs->∀A,Ay A m->WK At.le At.VR .ret A c (.call (.ref a) ⟨vs,[]⟩) (Rf sp.outs p)
def de {P:Type}(js:List Nat)(σ:AC)(p:P)(k:DK)(outs:List (Re P)):Prop:=match outs with|[]=>True|o::outs=>(∀q,o.post p q->k (or (Gi js σ.length) (o.res p q)) (ML js σ (o.cells p q)))/\de js σ p k outs
def MM (sp:Spec):=λas σ k=>G6 0 sp.d sp.args sp.cells sp.ext (LA sp) as σ λp js=>sp.pre p/\As ((sp.cells p).all Option.isSome) (de js σ p k sp.outs)
section
variable {S:St}{P:Type}
def GH {n:Nat}{p:P}{c:At S}{av:AV}{v:Value}(r:c.VR av v){G:Prop}:∀ {outs:List (Re P)},Gj n p av c.σ outs->(∀a (js:List Nat) tc,Mz js n [av] c.σ [a] tc->Rf outs p a tc->Cg (Cz c.γ js) c.h a v->G)->G:=by
 intro outs
 induction outs with
 |nil=>show λh Z=>h.elim
 |cons o outs ih=>
  intro h q;have h:(Bool.rec (Gj n p av c.σ outs) (G6 n o.d (λq=>[o.res p q]) (o.cells p) (λl σ=>o.ext p (hdV l) σ) (LX 0 o p) [av] c.σ λq Z=>o.post p q) (o.sel av c.σ):Prop):=h;cases e:o.sel av c.σ with
  |false=>rw[e] at h;show ih h λa js tc F ⟨b,m,x⟩ r=>q a js tc F ⟨b,Zo _ m,x⟩ r
  |true=>
   rw[e] at h;show B4 h λy js F hp=>q _ js _ F ⟨o,Sg ..,y,hp,rfl,rfl⟩ (by
    show Bj (F.le _ _ _ (PI c.γ js) [v] (show c.VRs [av] [v] from ⟨v,[],rfl,r,rfl⟩)) λw f e1 d g=>?_;ext e1;show d)
def YR:∀ {outs:List (Re P)},de js σ p k outs->∀ {av:AV} {τ:AC},Rf outs p av τ->k (or (Gi js σ.length) av) (ML js σ τ):=by
 intro outs
 induction outs with
 |nil=>show λZ Z Z r=>r.elim λZ h=>nomatch h.1
 |cons o outs ih=>
  intro h av τ r;show r.elim λa r=>r.2.elim λq t=>?_
  rcases QP.mp r.1 with rfl|m
  · rw[t.2.1,t.2.2];show h.1 q t.1
  · show ih h.2 ⟨a,m,q,t⟩
def YS {T:Hj}{Z:Jd}{K:Frag}(H:BX K S T)(f:CB K S Z){n:Nat}{a:Addr}{sp:Spec}(h:∀p,sp.pre p->We T Z n a sp p):DR S (n+1) a sp:=by
 intro p hp c hc vs rs A hr Q q;show AA (h p hp) λF g d=>?_;rw[<-hc] at d;show ca H (Eu H f n) hr g rs d Q λav c1 v hk l1 i=>?_;show GH i hk λb js tc F x r=>?_;show q b F.at v x (F.le0 l1 c.R.len) r
def PL {a}{m}{sp}(hc:∀S',Grows S S'->DR S' m a sp):Gh S m a (MM sp):=by
 intro as k c h vs rs A hr Q q;show B4 h λp js F hk=>?_;obtain⟨hp,ho⟩:=hk;obtain⟨I,ho⟩:=F5 ho;have J:∀b,(∃o,S.h₀.get? b=some o)->(Cz c.γ js).contains b=false:=λb ⟨o,hb⟩=>by
  cases V:(Cz c.γ js).contains b with
  |false=>rfl
  |true=>rw[c.R.fresh b (F.mem (LK.mp V))] at hb;ext hb
 have keep:∀b o,S.h₀.get? b=some o->(wo c.h (Cz c.γ js)).get? b=some o:=λb o hb=>by
  rw[Dq _ (J b ⟨o,hb⟩)];show c.R.keep b o hb
 let S':St:={prog:=S.prog,w:=S.w,h₀:=wo c.h (Cz c.γ js),mg:=S.mg,mb:=S.mb,os:=S.os,g:=S.g.keeps keep,b:=S.b.keeps keep,nl:=S.nl.keeps keep,md:=let ⟨o,ho⟩:=S.md;⟨o,keep _ _ ho⟩}
 have Y:FC S' (Cz c.γ js) (sp.cells p) c.s:=F.rep (S':=S') rfl rfl rfl (λb o e=>HV e) λb hb=>N6 _ (LK.mpr hb);show hc S' ⟨rfl,rfl,rfl,rfl,keep⟩ p hp ⟨_,_,_,Y⟩ rfl vs (F.vrs rs) A hr Q λav c' v hx T Z=>?_;have hk:=YR ho hx;have hN:(Cz c.γ js).length=js.length:=by unfold Cz;rw[Ei]
 have a0:js.length<=c'.γ.length:=by
  obtain⟨ex,e⟩:=T.pre;rw[e,JT,hN];show AAd ..
 have B:=c'.R.len;have hf:∀p b,c'.γ[p]?=some b->(c.γ++c'.γ.drop js.length)[Gi js c.σ.length p]?=some b:=λp b hb=>by
  cases K:js[p]? with
  |some j=>
   rw[Rd K];have x:=F.lt p j K;rw[<-c.R.len] at x;rw[mx x];have n:=T.pre.get (HU (γ:=c.γ) K);rw[hb] at n;rw[M1 n,NS,FA x];rfl
  |none=>
   unfold Gi;rw[K];have x:=pq.mp K;change (c.γ++c'.γ.drop js.length)[c.σ.length+(p-js.length)]?=some b;rw[uh (by rw[c.R.len];show AAd ..),List.getElem?_drop,c.R.len,Nat.add_sub_cancel_left,uf x];show hb
 have r:∀p ao' i b,live c'.σ p ao'->Gi js c.σ.length p=i->(c.γ++c'.γ.drop js.length)[i]?=some b->c'.γ[p]?=some b:=λp ao' i b h1 n h3=>by
  have hp:p<c'.γ.length:=by rw[B];show h1.lt
  have C:=hf p _ (FA hp);rw[n,h3] at C;ext C;show FA hp
 have f:∀i b,i<c.σ.length->(c.γ++c'.γ.drop js.length)[i]?=some b->c.γ[i]?=some b:=λi b hi hb=>by
  rwa [mx (by rw[c.R.len];show hi)] at hb
 have L:∀i ao b,(∀q:Nat,js[q]?≠some i)->live c.σ i ao->c.γ[i]?=some b->(Cz c.γ js).contains b=false:=λi ao b h1 n h3=>by
  cases V:(Cz c.γ js).contains b with
  |false=>rfl
  |true=>
   exfalso
   show AH (Zs.mp (LK.mp V)) λj x W=>?_;obtain⟨y,z⟩:=ul.mp x;have M:y<(sp.cells p).length:=by rw[<-F.len];show(nC.mp z).1
   have D:=QL.mp I _ (Zu M);obtain⟨t,ht⟩:=um.mp D;have hl:live (sp.cells p) y t:=by unfold live;rw[FA M,ht]
   show Bj (F.live hl) λi' ao' g1 g2 _=>?_;rw[z] at g1;ext g1;have N:j<c.γ.length:=by rw[c.R.len];show F.lt y j z
   have X:c.γ[j]?=some b:=by
    rw[FA N,<-W,NS,FA N];rfl
   have:=c.R.apart i j ao ao' b n g2 h3 X;subst this;show h1 y z
 have l:∀b∈c'.γ,(wo c.h (Cz c.γ js)).get? b=none:=c'.R.fresh;have s:∀b o,(wo c.h (Cz c.γ js)).get? b=some o->c'.h.get? b=some o:=c'.R.keep;have u:∀i ao p b,i<c.σ.length->(∀q:Nat,js[q]?≠some i)->live c.σ i ao->(c.γ++c'.γ.drop js.length)[i]?=some b->c'.γ[p]?=some b->False:=λi ao p b hi hn d hb hp=>by
  have hb:=f i b hi hb;obtain⟨U,E⟩:=(c.R.cells i ao b d hb).there;have O:=l b (uJ hp);rw[Dq _ (L i ao b hn d hb),E] at O;ext O
 have RR:FC S (c.γ++c'.γ.drop js.length) (ML js c.σ c'.σ) c'.s:=by
  show⟨λb o hb=>s b o (keep b o hb),?_,λi ao b h1 n=>?_,λb hb=>?_,λi j ao ao' b h1 n h3 C=>?_,c'.R.gens,c'.R.os⟩
  · rw[JT,List.length_drop,PK,c.R.len,B]
  · rcases Jm h1 with ⟨hi,hn,d⟩|⟨p,ao',g1,rfl,P⟩
    · have hb:=f i b hi n;show(c.R.cells i ao b d hb).mono ⟨_,rfl⟩ T.tk λU E=>s b U ?_;rw[Dq _ (L i ao b hn d hb)];show E
    · show kg hf (c'.R.cells p ao' b g1 (r p ao' i b g1 P n))
  · rcases List.mem_append.mp hb with hb|hb
    · show c.R.fresh b hb
    · have O:=l b (List.mem_of_mem_drop hb);cases qb:S.h₀.get? b with|none=>rfl|some U=>rw[keep b U qb] at O;ext O
  · rcases Jm h1 with ⟨hi,hn,d⟩|⟨p,G,g1,g2,P⟩<;>rcases Jm n with ⟨x,ln,R⟩|⟨y,H,l1,l2,l3⟩
    · show c.R.apart i j ao ao' b d R (f i b hi h3) (f j b x C)
    · show(u i ao y b hi hn d h3 (r y H j b l1 l3 C)).elim
    · show(u j ao' p b x ln R C (r p G i b g1 P h3)).elim
    · have:=c'.R.apart p y G H b g1 l1 (r p G i b g1 P h3) (r y H j b l1 l3 C);subst this;rw[<-P,<-l3]
 show q _ ⟨_,_,_,RR⟩ v hk ⟨⟨_,rfl⟩,T.tk⟩ (PJ hf Z)
end
structure Fm where
 P:Type
 d:P
 n:Nat
 cells:P->AC
 inv:P->P->Prop
 meas:P->Nat
 ext:AC->P
def LL (L:Fm)(p:L.P):=LO 0 [] (L.cells p)
def df (n:Nat)(l:List (Str×Nat)):Bool:=match l with|[]=>true|x::l=>Nat.blt x.2 n&&df n l
def dg (fr:Fr)(n:Nat):=Nat.blt fr.lid n&&(Nat.blt fr.fid n&&df n fr.cells)
def dh (n:Nat)(it:Fk):Bool:=match it with|.wl .. =>true|.fl _ i _ _=>Nat.blt i n|.cl _ _ i a=>Nat.blt i n&&Nat.blt a n|_=>false
def sE {P:Type}(_:P):List AV:=[]
def kj (L:Fm)(σ:AC)(k:L.P->Prop):=G6 L.n L.d sE L.cells (λZ σ=>L.ext σ) (LL L) [] σ λp Z=>k p
def di (L:Fm)(p₀ p:L.P)(σ:AC):=kj L σ λa=>L.inv p₀ a/\L.meas a<L.meas p
def sF (L:Fm)(fr:Fr)(it:Fk)(turn:(AC->Prop)->AC->Prop)(σ:AC):=As (dg fr L.n&&(Nat.beq σ.length L.n&&dh L.n it)) (kj L σ λp₀=>L.inv p₀ p₀/\∀p,L.inv p₀ p->turn (di L p₀ p) (L.cells p))
def FZ (ih:Ih)(fr:Fr)(it:Fk)(k:Nu it->AC->Prop)(rec:AC->Prop)(σ:AC):Prop:=match it,k with|.wl t b o,k=>T6 ih rec fr t b o σ k|.fl t i b o,k=>T8 ih rec fr t i b o σ k|.cl e d i a,k=>UJ ih rec fr e d i a σ k|_,_=>False
def sG (L:Fm)(it:Fk):Ih->Fr->AC->(Nu it->AC->Prop)->Prop:=λih fr σ k=>sF L fr it (FZ ih fr it k) σ
structure CU where
 n:Nat
 P:Type
 d:P
 pre:P->AC
 ext:AC->P
 Q:Type
 e:Q
 cells:P->Q->AC
 rel:P->Q->Prop
 extQ:P->AC->Q
def LP (M:CU)(p:M.P):=LO 0 [] (M.pre p)
def LM (m:Nat)(M:CU)(p:M.P)(q:M.Q):=LO m [] (M.cells p q)
def G7 (M:CU)(p:M.P)(fl:FV)(σ:AC):Prop:=match fl with|.next=>G6 M.n M.e sE (M.cells p) (λZ σ=>M.extQ p σ) (LM 0 M p) [] σ λq Z=>M.rel p q|_=>False
def I1 (M:CU)(x:Stmt):Ih->Fr->AC->(FV->AC->Prop)->Prop:=λih fr σ k=>As (Nat.beq σ.length M.n)
 (G6 M.n M.d sE M.pre (λZ σ=>M.ext σ) (LP M) [] σ λp Z=>∀a,a=p->IP ih fr x (M.pre a) (G7 M a)/\∀q,M.rel a q->k .next (M.cells a q))
section
variable {S:St}{A:Around}{fr:Fr}{c:At S}
def Et.stable {γ γ'}{n}(h:∀(i:Nat) (a:Addr),i<n->γ[i]?=some a->γ'[i]?=some a){l}{j}(r:Et γ l j):df n l->Et γ' l j:=by
 induction r with
 |nil=>show λZ=>.nil
 |cons e _ ih=>show λhb=>let ⟨b1,b⟩:=DQ.mp hb; .cons (h _ _ (DF b1) e) (ih b)
theorem AR.stable {γ γ'}{n}{env}(h:∀(i:Nat) (a:Addr),i<n->γ[i]?=some a->γ'[i]?=some a)(b:AR γ fr env)(hf:dg fr n):AR γ' fr env:=
 ⟨b.kind,Si b.is λL F cl h1 c h3 d=>⟨L,F,cl,h _ _ (DF (aL hf)) h1,h _ _ (DF (aL (aR hf))) c,h3.stable h (aR (aR hf)),d⟩⟩
theorem YT {L:Fm}{σ:AC}{k:L.P->Prop}{G:Prop}(h:kj L σ k)(q:∀p js,Mz js L.n [] σ [] (L.cells p)->k p->G):G:=B4 h q
def N8 {N}{it}{k:Nu it->AC->Prop}{js}{tc}(hf:dg fr N)(hi:dh N it)(F:Mz js N [] c.σ [] tc)
 (h:ER (At.leN N) A fr F.at it k):ER (At.leN N) A fr c it k:=by
  have st:∀(i:Nat) (a:Addr),i<N->c.γ[i]?=some a->F.at.γ[i]?=some a:=λi a hi e=>F.get hi e;have g:∀ {c':At S},At.leN N F.at c'->At.leN N c c':=λl=>⟨λi a hi e=>l.pre i a hi (st i a hi e),l.tk⟩
  cases it with
  |wl t b o=>show λenv he Q q=>h env (he.stable st hf) Q λr c' x hk l f=>q r c' x hk (g l) f
  |fl t i b o=>show λenv he a j Q q=>h env (he.stable st hf) a (st _ _ (DF hi) j) Q λr c' x hk l f=>q r c' x hk (g l) f
  |cl x d i acc=>
   have b1:=aL hi;have m:=aR hi;show λenv he a b j n Q q=>h env (he.stable st hf) a b (st _ _ (DF b1) j) (st _ _ (DF m) n) Q λr c' x hk l f=>q r c' x hk (g l) f
  |_=>ext hi
def Fo {n}{ih}(G:Good S n ih)(hr:Ay A n){it}{k:Nu it->AC->Prop}{N}{rec}(f:∀c':At S,rec c'.σ->ER (At.leN N) A fr c' it k)(h:FZ ih fr it k rec c.σ):ER (At.leN N) A fr c it k:=by
 cases it with
 |wl t b o=>show Nv G hr f h
 |fl t i b o=>show Nx G hr f h
 |cl e d i a=>show N1 G hr f h
 |_=>trivial
def Jn {n}{it}(h:dh n it):O4 it:=by
 cases it with
 |wl=>rfl
 |fl=>rfl
 |cl=>rfl
 |_=>ext h
def Wf {L:Fm}{it:Fk}{n:Nat}{ih:Ih}(G:Good S n ih)(hr:Ay A n){k:Nu it->AC->Prop}(h:sG L it ih fr c.σ k):NB A fr c it k:=by
 show AG h λhb h=>?_;have hf:=aL hb;have hb:=aR hb;have hn:=aL hb;have hi:=aR hb;have hn:=LJ hn;show NB.loop (Jn hi) (ER.imp (L:=At.leN L.n) (λc' l=>At.leN.all (hn▸l)) ?_);show B4 h λp₀ js F hk=>N8 hf hi F ?_;have main:∀(m:Nat) (p:L.P) (c:At S),L.meas p=m->L.inv p₀ p->c.σ=L.cells p->ER (At.leN L.n) A fr c it k:=by
  intro m
  induction m using Nat.strongRecOn with
  |ind m d=>
   intro p c hm hp hc;have f:=hk.2 p hp;rw[<-hc] at f;show Fo G hr (λc' hb=>YT (show kj L c'.σ (λb=>L.inv p₀ b/\L.meas b<L.meas p) from hb) λb i g a=>N8 hf hi g (d _ (hm▸a.2) b g.at rfl a.1 rfl)) f
 show main _ p₀ F.at rfl hk.1 rfl
def Uo {M}{x}{n}{ih}(G:Good S n ih)(hr:Ay A n){k}(h:I1 M x ih fr c.σ k):NB A fr c (.s1 x) k:=by
 show AG h λhn h=>B4 h λp js F hk=>?_;intro env b E Q q;have hn:=c.R.len.trans (LJ hn);have l0:c.le F.at:=F.le0 (.refl c) hn;obtain⟨h1,d⟩:=hk p rfl;show Jg (c:=F.at) G hr (b.at l0) h1 E Q λfl c1 f h1 l1 rf=>?_;cases fl with
 |next=>show B4 (show G6 M.n M.e sE (M.cells p) (λZ σ=>M.extQ p σ) (LM 0 M p) [] c1.σ (λq Z=>M.rel p q) from h1) λy g a i=>q .next a.at f (d y i) (a.le0 (l0.trans l1) hn) rf
 |_=>show h1.elim
end
section
def Up (b:List Stmt):Nat:=match b with|[]=>0|x::_=>match x with|.Expr _ p=>p.line|.Return _ p=>p.line|.If _ _ _ p=>p.line|.While _ _ _ p=>p.line|.For _ _ _ _ p=>p.line|.Assign _ _ p=>p.line|.Delete _ p=>p.line|.Try _ _ _ _ p=>p.line|_=>0
def xe (e:Expr)(d:Nat):Nat:=100000 * (d+1)+(match e with|.ListComp _ g _ p=>p.line+10000000 * (g.length-1)|.DictComp _ _ _ _ p=>p.line|_=>0)
def ot (L:Fm)(it:Fk):Ih->Fr->AC->(Nu it->AC->Prop)->Prop:=λih fr σ k=>FZ ih fr it k (sG L it ih fr · k) σ
structure Hw where
 P:Type
 d:P
 n:Nat
 cells:Bool->P->AC
 inv:P->P->Prop
 meas:P->Nat
 ext:Bool->AC->P
 alt:AC->Bool
 more:AC->Bool
def LW (L:Hw)(b:Bool)(p:L.P):=LO 0 [] (L.cells b p)
def xf (L:Hw)(σ:AC)(k:L.P->Prop):=G6 L.n L.d sE (L.cells (L.alt σ)) (λZ τ=>L.ext (L.alt σ) τ) (LW L (L.alt σ)) [] σ λp Z=>k p
def dj (L:Hw)(turn:(AC->Prop)->AC->Prop)(p₀ p:L.P)(σ:AC):Prop:=Bool.rec (xf L σ λa=>L.inv p₀ a/\L.meas a<L.meas p) (turn (λZ=>False) σ) (L.more σ)
def xg (L:Hw)(fr:Fr)(it:Fk)(turn:(AC->Prop)->AC->Prop)(σ:AC):Prop:=As (dg fr L.n&&(Nat.beq σ.length L.n&&dh L.n it))
 (Bool.rec (xf L σ λp₀=>L.inv p₀ p₀/\∀p,L.inv p₀ p->turn (dj L turn p₀ p) (L.cells false p)/\turn (dj L turn p₀ p) (L.cells true p)) (turn (λZ=>False) σ) (L.more σ))
def ou (L:Hw)(it:Fk):Ih->Fr->AC->(Nu it->AC->Prop)->Prop:=λih fr σ k=>xg L fr it (FZ ih fr it k) σ
structure Ex where
 P:Type
 d:P
 n:Nat
 cells:Bool->P->AC
 inv:Bool->P->P->Prop
 meas:Bool->P->Nat
 ext:Bool->AC->P
 alt:AC->Bool
def LV (L:Ex)(b:Bool)(p:L.P):=LO 0 [] (L.cells b p)
def kl (L:Ex)(σ:AC)(k:L.P->Prop):=G6 L.n L.d sE (L.cells (L.alt σ)) (λZ τ=>L.ext (L.alt σ) τ) (LV L (L.alt σ)) [] σ λp Z=>k p
def dk (L:Ex)(w:Bool)(p₀ p:L.P)(σ:AC):=kl L σ λa=>L.inv (L.alt σ) p₀ a/\L.meas (L.alt σ) a<L.meas w p
def AAh (L:Ex)(it:Fk):Ih->Fr->AC->(Nu it->AC->Prop)->Prop:=λih fr σ k=>As (dg fr L.n&&(Nat.beq σ.length L.n&&dh L.n it))
 (kl L σ λp=>∀p₀,p₀=p->L.inv (L.alt σ) p₀ p₀/\(∀p,L.inv false p₀ p->FZ ih fr it k (dk L false p₀ p) (L.cells false p))/\∀p,L.inv true p₀ p->FZ ih fr it k (dk L true p₀ p) (L.cells true p))
inductive Hk where|loop (L:Fm)|peel (L:Fm)|two (L:Hw)|kinds (L:Ex)|pick (L:AC->Ex)
def Uq (h:Hk)(it:Fk):Ih->Fr->AC->(Nu it->AC->Prop)->Prop:=match h with|.loop L=>sG L it|.peel L=>ot L it|.two L=>ou L it|.kinds L=>AAh L it|.pick L=>λih fr σ k=>AAh (L σ) it ih fr σ k
universe u v
def Rg {α:Type u}{β:Type v}(o:Option α)(f:α->β):Option β:=Option.rec none (λx=>some (f x)) o
def GI {α:Type u}{β:Type v}{o:Option α}{f:α->β}{r:β}{P:Prop}(e:Rg o f=some r)(q:∀x,f x=r->P):P:=by
 cases o with
 |none=>ext e
 |some x=>show q x (M1 e)
def lpOf (hl:Nat->Option Hk)(hm:Nat->Option (AC->CU))(it:Fk):Option (Ih->Fr->AC->(Nu it->AC->Prop)->Prop):=match it with|.wl t b o=>Rg (hl (Up b)) λh=>Uq h (.wl t b o)|.fl t i b o=>Rg (hl (Up b)) λh=>Uq h (.fl t i b o)|.cl e d i a=>Rg (hl (xe e d)) λh=>Uq h (.cl e d i a)|.s1 x=>Rg (hm (Up [x])) λM=>λih fr σ k=>I1 (M σ) x ih fr σ k|_=>none
def Cv (_:Nat):Option Hk:=none
def Bs (_:Nat):Option (AC->CU):=none
def Hx (ctr:List (Addr×Nat×Hl))(cls:List (Addr×Addr))(hl:Nat->Option Hk)(hm:Nat->Option (AC->CU))(virt:Option (Nat×(Nat->Hl))):Jd:={ctr:=ctr,cls:=cls,prim:=dO,virt:=virt,lp:=lpOf hl hm}
def BZ {ι:Type}(sp:ι->Spec)(f:List AV->AC->ι):=λas σ k=>MM (sp (f as σ)) as σ k
section
variable {S:St}{A:Around}{fr:Fr}{c:At S}{K:Frag}{T:Hj}
theorem dm {L}{it}(hl:O4 it){n}{ih}(G:Good S n ih)(hr:Ay A n){k:Nu it->AC->Prop}(h:ot L it ih fr c.σ k):NB A fr c it k:=
 NB.loop hl (ER.imp (λZ l=>At.leN.all l) (Fo (N:=c.σ.length) G hr (λc' h'=>(NB.toL (Wf G hr h')).imp λZ l=>l.toN _) h))
def Rh {b:Bool}{p q P:Prop}(h:(Bool.rec p q b:Prop))(hp:p->P)(hq:q->P):P:=by
 cases b with
 |true=>show hq h
 |false=>show hp h
def dn {L:Hw}{it:Fk}{n:Nat}{ih:Ih}(G:Good S n ih)(hr:Ay A n){k:Nu it->AC->Prop}(h:ou L it ih fr c.σ k):NB A fr c it k:=by
 show AG h λhb h=>?_;have hf:=aL hb;have hb:=aR hb;have hn:=aL hb;have hi:=aR hb;have hn:=LJ hn;show NB.loop (Jn hi) (ER.imp (L:=At.leN L.n) (λc' l=>At.leN.all (hn▸l)) ?_);have a:∀c':At S,FZ ih fr it k (λZ=>False) c'.σ->ER (At.leN L.n) A fr c' it k:=λc' h=>Fo G hr (λZ h=>h.elim) h;show Rh h (λh=>?_) λh=>a c h;show B4 h λp₀ js F hk=>N8 hf hi F ?_;have main:∀(m:Nat) (p:L.P) (w:Bool) (c:At S),L.meas p=m->L.inv p₀ p->c.σ=L.cells w p->ER (At.leN L.n) A fr c it k:=by
  intro m
  induction m using Nat.strongRecOn with
  |ind m d=>
   intro p w c hm hp hc;have g:FZ ih fr it k (dj L (FZ ih fr it k) p₀ p) c.σ:=by
    show(hc)▸?_;cases w with
    |false=>show(hk.2 p hp).1
    |true=>show(hk.2 p hp).2
   show Fo G hr (λc' hb=>Rh hb (λhb=>B4 hb λi j f b=>N8 hf hi f (d _ (hm▸b.2) i _ f.at rfl b.1 rfl)) λhb=>a c' hb) g
 show main _ p₀ _ F.at rfl hk.1 rfl
theorem OB {L:Ex}{σ:AC}{k:L.P->Prop}{G:Prop}(h:kl L σ k)(q:∀p js,Mz js L.n [] σ [] (L.cells (L.alt σ) p)->k p->G):G:=B4 h q
def Ri {L:Ex}{it:Fk}{n:Nat}{ih:Ih}(G:Good S n ih)(hr:Ay A n){k:Nu it->AC->Prop}(h:AAh L it ih fr c.σ k):NB A fr c it k:=by
 show AG h λhb h=>?_;have hf:=aL hb;have hb:=aR hb;have hn:=aL hb;have hi:=aR hb;have hn:=LJ hn;show NB.loop (Jn hi) (ER.imp (L:=At.leN L.n) (λc' l=>At.leN.all (hn▸l)) ?_);show OB h λp₀ js F hk=>N8 hf hi F ?_;have hk:=hk p₀ rfl;have main:∀(m:Nat) (w:Bool) (p:L.P) (c:At S),L.meas w p=m->L.inv w p₀ p->c.σ=L.cells w p->ER (At.leN L.n) A fr c it k:=by
  intro m
  induction m using Nat.strongRecOn with
  |ind m d=>
   intro w p c hm hp hc;have g:FZ ih fr it k (dk L w p₀ p) c.σ:=by
    show(hc)▸?_;cases w with
    |false=>show hk.2.1 p hp
    |true=>show hk.2.2 p hp
   show Fo G hr (λc' hb=>OB (show kl L c'.σ (λb=>L.inv (L.alt c'.σ) p₀ b/\L.meas (L.alt c'.σ) b<L.meas w p) from hb) λb i f a=>N8 hf hi f (d _ (hm▸a.2) _ b f.at rfl a.1 rfl)) g
 show main _ _ p₀ F.at rfl hk.1 rfl
def PM {h}{it}(hl:O4 it){n}{ih}(G:Good S n ih)(hr:Ay A n){k:Nu it->AC->Prop}(q:Uq h it ih fr c.σ k):NB A fr c it k:=by
 cases h with
 |loop L=>show Wf G hr q
 |peel L=>show dm hl G hr q
 |two L=>show dn G hr q
 |kinds L=>show Ri G hr q
 |pick L=>show Ri (L:=L c.σ) G hr q
def BP (S:St)(l:List (Addr×Nat×Hl)):=∀a x,l.lookup a=some x->Gh S x.1 a x.2/\isFn S a
def G8 (K:Frag)(l:List (Addr×Addr)):=∀C f,l.lookup C=some f->makesIn K C/\findIn K (.ref C) "__init__"=some (some (.ref f))/\typeIn K (.ref f)=some (.type "function")
def Jo (S:St)(v:Option (Nat×(Nat->Hl))):=∀x,v=some x->∀k,Gh S x.1 (Gv k) (x.2 k)/\isFn S (Gv k)
theorem sH {ctr:List (Addr×Nat×Hl)}{cls:List (Addr×Addr)}{hl:Nat->Option Hk}{hm:Nat->Option (AC->CU)}{virt:Option (Nat×(Nat->Hl))}(h:BP S ctr)(hc:G8 K cls)(hv:Jo S virt):CB K S (Hx ctr cls hl hm virt) where
 ctr:=h
 cls:=hc
 prim:=λZ Z Z Z h Z rs Z hr=>Ra h rs hr
 virt:=hv
 lp:=λit f e n ih G A hr fr k c q=>by
  cases it with
  |wl t b o=>show GI (f:=λh=>Uq h (.wl t b o)) e λh e=>by ext e;show PM rfl G hr q
  |fl t i b o=>show GI (f:=λh=>Uq h (.fl t i b o)) e λh e=>by ext e;show PM rfl G hr q
  |cl x d i a=>show GI (f:=λh=>Uq h (.cl x d i a)) e λh e=>by ext e;show PM rfl G hr q
  |s1 x=>show GI (f:=λ(M:AC->CU)=>λih fr σ k=>I1 (M σ) x ih fr σ k) e λh e=>by ext e;show Uo (M:=h c.σ) G hr q
  |_=>ext e
theorem Ks (H:BX K S T){a}{F}(e:T.fns.lookup a=some F):isFn S a:=AH ((H.fns a F e).obj) λo ho hd=>⟨o,F.fd,ho,hd⟩
theorem dp:BP S []:=λZ Z e=>nomatch e
theorem YU {a}{m}{f}{l}(hf:Gh S m a f)(hi:isFn S a)(h:BP S l):BP S ((a,m,f)::l):=λb x e=>by
 rw[Sa] at e;cases q:b==a with
 |true=>rw[q] at e;ext e;cases Fz.mp q;show⟨hf,hi⟩
 |false=>rw[q] at e;show h b x e
end
end
end
section
open PySem PySem.W
def fnOf (fd:FuncData):Fn:={fd:=fd,body:=match fd.body with|.stmts l=>l|_=>[],params:=fd.params.args.map (·.arg)}
def ge (x:Str)(a:AV):Str×AV:=(x,a)
section
def Gp (a:Addr):AV:=.d (.v (.ref a))
def ow:List (Str×AV):=[ge "least" (Gp 28),
 ge "greatest" (Gp 35),
 ge "has" (Gp 54),
 ge "has_domains" (Gp 54),
 ge "up_to" (Gp 66),
 ge "from_on" (Gp 71),
 ge "without" (Gp 78),
 ge "negation" (Gp 99),
 ge "struck" (Gp 106),
 ge "said_of" (Gp 113),
 ge "Store" (Gp 263),
 ge "Propagator" (Gp 305),
 ge "LINEAR" (.d (.tup [.str "linear_le",.str "linear_eq",.str "linear_ne"])),
 ge "piece_text" (Gp 454),
 ge "output_text" (Gp 459),
 ge "Engine" (Gp 1595),
 ge "Brancher" (Gp 1644),
 ge "Search" (Gp 1769),
 ge "rows_of" (Gp 1778),
 ge "least_term" (Gp 1790),
 ge "least_reasons" (Gp 1797),
 ge "strike_le" (Gp 1802),
 ge "divisor_of" (Gp 1809),
 ge "LinearLe" (Gp 1849),
 ge "LinearEq" (Gp 1894),
 ge "LinearNe" (Gp 1936),
 ge "AFTER_ANSWER" (.d (.str "----------")),
 ge "ALL_SAID" (.d (.str "==========")),
 ge "NO_ANSWER" (.d (.str "=====UNSATISFIABLE=====")),
 ge "NOT_KNOWN" (.d (.str "=====UNKNOWN=====")),
 ge "BRANCH_ORDERS" (.d (.tup [.str "input_order",.str "first_fail",.str "smallest",.str "largest",.str "most_constrained"])),
 ge "BRANCH_CHOICES" (.d (.tup [.str "min",.str "max",.str "median",.str "split"])),
 ge "linear_rule" (Gp 2929),
 ge "rule_of" (Gp 2971),
 ge "engine_of" (Gp 2978),
 ge "check_options" (Gp 2990),
 ge "Solver" (Gp 3033),
 ge "run_flat" (Gp 3044),
 ge "Flat" (Gp 3089),
 ge "_law_dip" (Gp 3100),
 ge "_law_told" (Gp 3107),
 ge "_law_keeps" (Gp 3114),
 ge "_law_due" (Gp 3121),
 ge "law" (Gp 3126)]
def sI:List (Str×Pr):=[("len",.len),("min",.min),("max",.max),("sum",.sum),("sorted",.sorted),("abs",.abs),("tuple",.tuple),("list",.list),("range",.range),("zip",.zip),("enumerate",.enumerate),("dict",.dict),("str",.str)]
def Rj:List (Addr×Fn):=[(28,fnOf p8),(35,fnOf p9),(54,fnOf qA),(66,fnOf qB),(71,fnOf qC),(78,fnOf qD),(99,fnOf qE),(106,fnOf aB),(113,fnOf aC),(127,fnOf aD),(134,fnOf aE),(141,fnOf aF),(148,fnOf aG),(155,fnOf aH),(162,fnOf aI),(169,fnOf aJ),(183,fnOf aK),(190,fnOf aM),(204,fnOf aN),(211,fnOf aO),(218,fnOf aP),(225,fnOf aQ),(232,fnOf aS),(239,fnOf aT),(246,fnOf aU),(253,fnOf aV),(260,fnOf aW),(281,fnOf aX),(454,fnOf aY),(459,fnOf aZ),(1550,fnOf Sk),(1557,fnOf Sl),(1564,fnOf Sn),(1571,fnOf So),(1578,fnOf Sp),(1585,fnOf Sq),(1592,fnOf Sr),(1620,fnOf Ss),(1627,fnOf Su),(1634,fnOf Sv),(1641,fnOf Sw),(1662,fnOf Sx),(1674,fnOf Sy),(1681,fnOf Sz),(1688,fnOf S0),(1695,fnOf S3),(1702,fnOf S4),(1726,fnOf S5),(1731,fnOf S6),(1738,fnOf S7),(1745,fnOf S8),(1778,fnOf S9),(1790,fnOf TA),(1797,fnOf TB),(1802,fnOf TC),(1809,fnOf TD),(1825,fnOf LR),(1832,fnOf TE),(1867,fnOf LU),(1872,fnOf TF),(1877,fnOf TG),(1912,fnOf LY),(1919,fnOf TH),(2929,fnOf TJ),(2971,fnOf TL),(2978,fnOf TM),(2990,fnOf TN),(3002,fnOf TP),(3009,fnOf TQ),(3016,fnOf TR),(3023,fnOf TU),(3030,fnOf TV),(3044,fnOf TW),(3058,fnOf TX),(3065,fnOf TY),(3072,fnOf TZ),(3079,fnOf Ta),(3086,fnOf Tb),(3100,fnOf Tc),(3107,fnOf Td),(3114,fnOf Te),(3121,fnOf Tf),(3126,fnOf Bo)]
def PN:List (Addr×List (Str×Addr)):=[(263,[("__init__",127),("new_var",134),("size",141),("dom",148),("initial",155),("low",162),("high",169),("is_fixed",183),("value",190),("holds",204),("enter",211),("strike",218),("decide",225),("fail",232),("push",239),("pop",246),("depth",253),("changed",260)]),
 (1595,[("__init__",1550),("add",1557),("degree",1564),("wake",1571),("ask_next",1578),("has_more",1585),("propagate",1592)]),
 (1644,[("__init__",1620),("rank",1627),("next_var",1634),("choose",1641)]),
 (1769,[("__init__",1662),("back_to",1674),("aim",1681),("descend",1688),("turn",1695),("turn_round",1702),("choose",1726),("answer",1731),("go_on",1738),("next",1745)]),
 (1849,[("__init__",1825),("propagate",1832)]),
 (1894,[("__init__",1867),("bounds",1872),("propagate",1877)]),
 (1936,[("__init__",1912),("propagate",1919)]),
 (3033,[("__init__",3002),("next_answer",3009),("want_better",3016),("answers",3023),("is_over",3030)]),
 (3089,[("__init__",3058),("new_var",3065),("post",3072),("size",3079),("domain_of",3086)])]
def YV:List (Addr×List Str):=[(263,["domains","firsts","trail","marks","news","speaker","is_failed","clash"]),
 (1595,["store","propagators","users","waiting","unasked","book","book_news","is_book_due","failed_by"]),
 (1644,["some","order","choice","degrees"]),
 (1769,["engine","store","brancher","base","rest","path","refuted","learner","goal","is_begun","is_over","is_answered","fail_limit","restart_unit","nodes","fails","restarts","since"]),
 (1849,["number","scope","strength","coefs","c","rows"]),
 (1894,["number","scope","strength","coefs","c","rows","divisor"]),
 (1936,["number","scope","strength","coefs","c","rows"]),
 (3033,["flat","search"]),
 (3089,["vars","tolds","goal","shown"])]
def TT:Hj:={glob:=ow,blt:=sI,fns:=Rj,meths:=PN,absent:=YV}
abbrev Ur:Addr:=263
abbrev Wg:Addr:=1595
abbrev Bz:Addr:=1644
abbrev Ku:Addr:=1769
abbrev B0:Addr:=1849
abbrev Dr:Addr:=1894
abbrev B1:Addr:=1936
abbrev HW:Addr:=3033
abbrev Gk:Addr:=3089
abbrev Wh:Addr:=66
abbrev OC:Addr:=71
abbrev Jp:Addr:=113
abbrev PO:Addr:=127
abbrev Ds:Addr:=183
abbrev B5:Addr:=218
abbrev Ey:Addr:=225
abbrev KP:Addr:=246
abbrev AK:Addr:=281
abbrev Hy:Addr:=459
abbrev NG:Addr:=1550
abbrev Cn:Addr:=1571
abbrev Dc:Addr:=1578
abbrev DS:Addr:=1592
abbrev CI:Addr:=1620
abbrev NH:Addr:=1662
abbrev Du:Addr:=1674
abbrev Cd:Addr:=1681
abbrev CV:Addr:=1688
abbrev Fa:Addr:=1695
abbrev DG:Addr:=1702
abbrev Bp:Addr:=1726
abbrev C0:Addr:=1738
abbrev A5:Addr:=1745
abbrev B2:Addr:=1778
abbrev Ag:Addr:=1797
abbrev BB:Addr:=1802
abbrev Av:Addr:=1825
abbrev C1:Addr:=1832
abbrev CJ:Addr:=1867
abbrev BC:Addr:=1877
abbrev Aw:Addr:=1912
abbrev BD:Addr:=1919
abbrev Ak:Addr:=2971
abbrev D0:Addr:=3002
abbrev Am:Addr:=3023
abbrev IQ:Addr:=3044
abbrev DW:Addr:=3058
abbrev Jq:Addr:=3100
abbrev MN:Addr:=3107
abbrev BI:Addr:=3114
abbrev OD:Addr:=3121
abbrev Hz:Addr:=3126
end
def Z0:Jd:={ctr:=[],cls:=[],prim:=dO,lp:=λZ=>none,virt:=none}
def AP (Z:Jd)(n:Nat)(a:Addr)(sp:Spec):=∀p,sp.pre p->We TT Z n a sp p
structure Is (p:Prop):Prop where
 h:p
theorem AQ (e:p=q)(h:p):Is q:=⟨e▸h⟩
theorem Us {Z}{K}{S}(H:BX K S TT)(b:CB K S Z){n}{a}{sp}(h:Is (AP Z n a sp)):DR S (n+1) a sp:=YS H b h.h
abbrev AF (b:Bool)(p q:Unit->Prop):Prop:=Bool.rec (q ()) (p ()) b
theorem AB {p q}(h:b=true->p ())(h':b=false->q ()):AF b p q:=Tk h h'
theorem Be {a b c:Nat}(h:a<=b)(k:b<=c:=by decide):a<=c:=EX h k
abbrev Ed (a:Bool)(b:Cf)(c:Int)(d):=El.mk a b c d {cps:=default}
abbrev L1 {α:Type}(l:List α):Prop:=l.length.le 1000
abbrev Ut (p:Prop):=p/\p
theorem Dd (h:p):Ut p:=⟨h,h⟩
def rI (a:AV):Int:=(Cp a).getD 0
def rS (a:AV):Str:=(M8 a).getD ""
def rD (a:AV):Cf:=Option.rec [] (λt=>Option.rec (Option.rec [] (λl=>(PF l).getD []) (JS t)) (λd=>d) (KH t)) (Ff a)
def rB (a:AV):Bool:=(US a).getD false
def Ae (l:List AV)(i:Nat):AV:=(l[i]?).getD (.d .any)
def DH (a:AV):List AV:=Option.rec [] (λt=>Option.rec [] (λl=>l.map .d) (JS t)) (Ff a)
def rO (σ:AC)(i:Nat):AO:=((σ[i]?).getD none).getD (.cell none)
def Ce (t:Ty)(o:AO):List El:=Option.rec (Option.rec [] (λl=>(dN t l).getD []) (Lk o)) (λx=>x.2) (IK o)
def NI (o:AO):Bool×Bool:=Option.rec (Option.rec (false,false) (λes=>(Wa (es.map (·.1))).getD (false,false)) (Iq o)) (λx=>x) (M9 o)
def km (o:AO):Nat×Int:=Option.rec (0,0) (λx=>(x.2.1,x.2.2.1)) (ka o)
def rF (o:AO)(x:Str):AV:=Option.rec (.d .any) (λfs=>(fs.lookup x).getD (.d .any)) (Xp o)
def yes (_:AV)(_:AC):Bool:=true
def NJ {P:Type}(res:P->AV)(cells:P->AC):Re P:={Q:=Unit,d:=(),res:=λp Z=>res p,cells:=λp Z=>cells p,post:=λZ Z=>True,ext:=λZ Z Z=>(),sel:=yes}
def xh {P:Type}(l:List (Re P))(k:Nat):Re P:=match l with|[]=>NJ (λZ=>.d .any) λZ=>[]|o::l=>match k with|0=>o|k+1=>xh l k
def oN (sp:Spec)(k:Nat):Re sp.P:=xh sp.outs k
def Ez (M:List Lf)(l:List (Nat×Lf)):List Lf:=match l with|[]=>M|x::l=>(Ez M l).set x.1 x.2
def rf (l:List Lf):=l=l
def upTo (d:Cf)(k:Int):Cf:=(d.filter λp=>decide (p.1<=k)).map λp=>(p.1,min p.2 k)
def Ao (d:Cf)(k:Int):Cf:=(d.filter λp=>decide (p.2≥k)).map λp=>(max p.1 k,p.2)
def E0 (f:Cf->Int->Cf):Spec:={
 P:=Cf×Int,d:=([],0),args:=λp=>[.d (.dom p.1),.d (.int p.2)],cells:=λZ=>[],pre:=λp=>p.1.length<=2,ext:=λl Z=>(rD (Ae l 0),rI (Ae l 1)),
 outs:=[NJ (λp=>.d (.dom (f p.1 p.2))) λZ=>[]]}
def NK:List Cf:=[[],[(0,0)],[(1,1)],[(0,1)],[(2,2)],[(0,0),(2,2)],[(1,2)],[(0,2)],[(3,3)],[(0,0),(3,3)],[(1,1),(3,3)],[(0,1),(3,3)],[(2,3)],[(0,0),(2,3)],[(1,3)],[(0,3)]]
def mem (d:Cf)(v:Int):Bool:=d.any λp=>decide (p.1<=v)&&decide (v<=p.2)
def Aq (d:Cf):=d∈NK
def AM (d:Cf):Nat:=([0,1,2,3].filter (mem d)).length
def Ac (d:Cf):Int:=(d.headD (0,0)).1
def Ax (d:Cf):Int:=(d.getLastD (0,0)).2
inductive Op where|le|ge|ne
def opS (o:Op):Str:=match o with|.le=>"<="|.ge=>">="|.ne=>"!="
def holds (o:Op)(k v:Int):Bool:=match o with|.le=>decide (v<=k)|.ge=>decide (v≥k)|.ne=>decide (v≠k)
def cut (o:Op)(d:Cf)(k:Int):Cf:=match o with|.le=>upTo d k|.ge=>Ao d k|.ne=>upTo d (k-1)++Ao d (k+1)
def GJ:∀d∈NK,∀p∈d,0<=p.1/\p.1<=p.2/\p.2<=3:=∅
def Ar:∀d∈NK,d.length<=2:=∅
theorem Bh {d}{n:Nat}(h:d∈NK)(k:2<=n:=by decide):d.length<=n:=EX (Ar _ h) k
def I2 {d}(h:Aq d){k:Int}(hk:k<0):upTo d k=[]:=by
 unfold upTo;rw[pi.mpr λp hp=>by have:=GJ d h p hp;simp;omega];rfl
def Rk {d:Cf}{f}(h:∀p∈d,f p=p):d.map f=d:=by
 have:d.map f=d.map id:=List.map_congr_left h;rw[this,List.map_id]
def HX {d:Cf}(h:Aq d){k:Int}(hk:3<=k):upTo d k=d:=by
 unfold upTo;rw[List.filter_eq_self.mpr λp hp=>by have:=GJ d h p hp;simp;lia];show Rk λp hp=>by have:=GJ d h p hp;ext<;>simp;lia
def GK {d:Cf}(h:Aq d){k:Int}(hk:k<=0):Ao d k=d:=by
 unfold Ao;rw[List.filter_eq_self.mpr λp hp=>by have:=GJ d h p hp;simp;lia];show Rk λp hp=>by have:=GJ d h p hp;ext<;>simp;lia
def FF {d}(h:Aq d){k:Int}(hk:3<k):Ao d k=[]:=by
 unfold Ao;rw[pi.mpr λp hp=>by have:=GJ d h p hp;simp;omega];rfl
def MO (k:Int):Int:=if k< -1 then -1 else if 4<k then 4 else k
def MP {o}{d}(h:Aq d) k:cut o d k=cut o d (MO k):=by
 unfold MO
 split
 · rename_i hk
   cases o with
   |le=>change upTo d k=upTo d (-1);rw[I2 h (by lia),I2 h (by lia)]
   |ge=>change Ao d k=Ao d (-1);rw[GK h (by lia),GK h (by lia)]
   |ne=>change upTo d (k-1)++Ao d (k+1)=upTo d (-1-1)++Ao d (-1+1);rw[I2 h (by lia),I2 h (by lia),GK h (by lia),GK h (by lia)]
 · split
   · rename_i hk
     cases o with
     |le=>change upTo d k=upTo d 4;rw[HX h (by lia),HX h (by lia)]
     |ge=>change Ao d k=Ao d 4;rw[FF h (by lia),FF h (by lia)]
     |ne=>change upTo d (k-1)++Ao d (k+1)=upTo d (4-1)++Ao d (4+1);rw[HX h (by lia),HX h (by lia),FF h (by lia),FF h (by lia)]
   · rfl
def dq (k:Int):MO k∈([-1,0,1,2,3,4]:List Int):=by
 unfold MO
 split
 · decide
 · split
   · decide
   · have:k=-1∨k=0∨k=1∨k=2∨k=3∨k=4:=by lia
     rcases this with h|h|h|h|h|h<;>subst h<;>decide
def Uu o (k:Int)(v:Int)(h:0<=v/\v<=3):holds o k v=holds o (MO k) v:=by
 unfold MO
 split
 · cases o<;>simp[holds]<;>omega
 · split
   · cases o<;>simp[holds]<;>omega
   · rfl
def IS {d}(h:Aq d){v:Int}(hv:mem d v):v∈([0,1,2,3]:List Int):=by
 unfold mem at hv;show AH (List.any_eq_true.mp hv) λp hp q=>?_;have:=GJ d h p hp;simp at q;have:v=0∨v=1∨v=2∨v=3:=by lia
 rcases this with h|h|h|h<;>subst h<;>decide
def sJ (o:Op):Bool:=NK.all λd=>([-1,0,1,2,3,4]:List Int).all λk=>NK.contains (cut o d k)&&(([0,1,2,3]:List Int).all λv=>mem (cut o d k) v==(mem d v&&holds o k v))&&(cut o d k==d||Nat.blt (AM (cut o d k)) (AM d))
def YW o:sJ o:=by cases o<;>decide+kernel
def Jr {o}{d}(h:Aq d)(k:Int):Aq (cut o d (MO k))/\(∀v∈([0,1,2,3]:List Int),mem (cut o d (MO k)) v=(mem d v&&holds o (MO k) v))/\(cut o d (MO k)=d∨AM (cut o d (MO k))<AM d):=by
 have:=QL.mp (QL.mp (YW o) d h) _ (dq k);have h1:=aL this;have h3:=aR this;obtain⟨h1,a⟩:=DQ.mp h1;show⟨LK.mp h1,λv hv=>Fz.mp (QL.mp a v hv),?_⟩
 rcases Bool.or_eq_true_iff.mp h3 with h3|h3
 · show .inl (Fz.mp h3)
 · show .inr (by rwa [Nat.blt_eq] at h3)
def BA {o}{d}(h:Aq d) k:Aq (cut o d k):=by rw[MP h];show(Jr h k).1
def BO {o}{d}(h:Aq d) k v:mem (cut o d k) v=(mem d v&&holds o k v):=by
 by_cases hv:v∈([0,1,2,3]:List Int)
 · rw[MP h,(Jr h k).2.1 v hv,Uu o k v];simp at hv;lia
 · have h1:mem (cut o d k) v=false:=by
    cases q:mem (cut o d k) v with
    |false=>rfl
    |true=>show absurd (IS (BA h k) q) hv
   have a:mem d v=false:=by
    cases q:mem d v with
    |false=>rfl
    |true=>show absurd (IS h q) hv
   rw[h1,a];rfl
def dr {o}{d}(h:Aq d) k:cut o d k=d∨AM (cut o d k)<AM d:=by rw[MP h];show(Jr h k).2.2
def YX:∀d∈NK,d≠[]->mem d (Ac d)/\mem d (Ax d)/\0<=Ac d/\Ac d<=Ax d/\Ax d<=3/\∀v∈([0,1,2,3]:List Int),mem d v->Ac d<=v/\v<=Ax d:=∅
def ends {d}(h:Aq d)(hn:d≠[]):mem d (Ac d)/\mem d (Ax d)/\0<=Ac d/\Ac d<=Ax d/\Ax d<=3/\∀v,mem d v->Ac d<=v/\v<=Ax d:=by
 show uo (YX d h hn) λh1 a h3 b c f=>?_;show⟨h1,a,h3,b,c,λv hv=>f v (IS h hv) hv⟩
def dw:∀d∈NK,AM d<=4:=∅
def AT (d:Cf):Bool:=decide (d.length=1)&&decide ((d.headD (0,0)).1=(d.headD (0,0)).2)
def GL:∀d∈NK,d≠[]->(AT d=true<->Ac d=Ax d):=∅
def Co {d}(h:Aq d)(hn:d≠[])(hf:AT d) v:mem d v=true<->v=Ac d:=by
 show uo (ends h hn) λh1 b h3 c f a=>?_;have:=(GL d h hn).mp hf
 constructor
 · intro hv;have:=a v hv;lia
 · rintro rfl;show h1
end
section
open PySem PySem.W PySem.Spec PySem.Calls PyProof.Rows
structure SS where
 sp:Int
 fl:Bool
 d0:Cf
 d1:Cf
 f0:Cf
 f1:Cf
 tr:List El
 ms:List El
 n0:Bool
 n1:Bool
abbrev CS:=SS.mk
def SS.dom (s:SS)(x:Bool):Cf:=match x with|false=>s.d0|true=>s.d1
def IT:SS:=⟨0,false,[],[],[],[],[],[],false,false⟩
def E1 (s:SS)(p:Nat):AC:=[some (.inst Ur (p+1)),
 some (.ns [("domains",.ref (p+2)),("firsts",.ref (p+3)),("trail",.ref (p+4)),("marks",.ref (p+5)),("news",.ref (p+6)),("speaker",.d (.int s.sp)),("is_failed",ba s.fl),("clash",.d .any)]),
 some (.list [.d (.dom s.d0),.d (.dom s.d1)]),some (.list [.d (.dom s.f0),.d (.dom s.f1)]),some (.tl .trl s.tr),some (.tl .int s.ms),some (.iset s.n0 s.n1)]
def rL (σ:AC)(i:Nat):List AV:=(Lk (rO σ i)).getD []
def Dv (σ:AC)(p:Nat):SS where
 sp:=rI (rF (rO σ (p+1)) "speaker")
 fl:=rB (rF (rO σ (p+1)) "is_failed")
 d0:=rD (Ae (rL σ (p+2)) 0)
 d1:=rD (Ae (rL σ (p+2)) 1)
 f0:=rD (Ae (rL σ (p+3)) 0)
 f1:=rD (Ae (rL σ (p+3)) 1)
 tr:=Ce .trl (rO σ (p+4))
 ms:=Ce .int (rO σ (p+5))
 n0:=(NI (rO σ (p+6))).1
 n1:=(NI (rO σ (p+6))).2
structure E2 (s:SS):Prop where
 g0:Aq s.d0
 g1:Aq s.d1
 tr:s.tr.length<=900
 ms:s.ms.length<=900
def E2.g (h:E2 s) x:Aq (s.dom x):=by cases x;show h.g0;show h.g1
def Kb (x:Bool)(nd:Cf)(s:SS):SS:=match x with
 |false=>{s with d0:=nd,tr:=s.tr++[⟨false,s.d0,0,0,default⟩],n0:=true}
 |true=>{s with d1:=nd,tr:=s.tr++[⟨true,s.d1,0,0,default⟩],n1:=true}
def AJ (x:Bool)(nd:Cf)(s:SS):Bool×SS:=if nd=[] then (false,{s with fl:=true}) else if nd=s.dom x then (true,s) else (true,Kb x nd s)
def Fp {x}{nd}{s}(h:decide (nd=[])):AJ x nd s=(false,{s with fl:=true}):=by unfold AJ;rw[if_pos (AAL h)]
def D9 {x}{nd}{s}(h:decide (nd=[])=false)(h':decide (nd=s.dom x)):AJ x nd s=(true,s):=by unfold AJ;rw[if_neg (NT h),if_pos (AAL h')]
def EA {x}{nd}{s}(h:decide (nd=[])=false)(h':decide (nd=s.dom x)=false):AJ x nd s=(true,Kb x nd s):=by unfold AJ;rw[if_neg (NT h),if_neg (NT h')]
def sL (s:SS)(l:List Lf):List Lf:=.b s.n0::.b s.n1::.l s.ms::.l s.tr::.d s.f1::.d s.f0::.d s.d1::.d s.d0::.v (.bool s.fl)::.i s.sp::l
def Ai (x:Bool)(o:Op):Spec where
 P:=Int×SS
 d:=(0,IT)
 args:=λp=>[.ref 0,.d (.tup [.int (CZ x),.str (opS o),.int p.1]),.d (.tp 1000)]
 cells:=λp=>E1 p.2 0
 pre:=λp=>E2 p.2
 ext:=λl σ=>(rI (Ae (DH (Ae l 1)) 2),Dv σ 0)
 outs:=[{Q:=Bool×SS,d:=(false,IT),res:=λZ q=>ba q.1,cells:=λZ q=>E1 q.2 0,post:=λp q=>q=AJ x (cut o (p.2.dom x) p.1) p.2,ext:=λZ a σ=>(rB a,Dv σ 0),sel:=yes}]
def xi (f:Cf->Int->Cf):=MM (E0 f)
def sK:List (Addr×Nat×Hl):=[(Wh,15,xi upTo),(OC,15,xi Ao)]
def Z1:=Hx sK [] Cv Bs none
end
section
def kn (e:El)(p:Cf×Cf):Cf×Cf:=match e.x with|false=>(e.d,p.2)|true=>(p.1,e.d)
def AAO (t:List El)(p:Cf×Cf):Cf×Cf:=t.foldr kn p
def G9 t u p:AAO (t++u) p=AAO t (AAO u p):=by unfold AAO;rw[List.foldr_append]
structure Gr (s s':SS):Prop where
 f0:s'.f0=s.f0
 f1:s'.f1=s.f1
 ms:s'.ms=s.ms
 ex:∃t,s'.tr=s.tr++t/\AAO t (s'.d0,s'.d1)=(s.d0,s.d1)
 sz:s'.tr.length+(AM s'.d0+AM s'.d1)<=s.tr.length+(AM s.d0+AM s.d1)
 g:Aq s.d0->Aq s.d1->Aq s'.d0/\Aq s'.d1
 z:s.d0≠[]->s.d1≠[]->s'.d0≠[]/\s'.d1≠[]
 c0:s'.d0=s.d0∨AM s'.d0<AM s.d0
 c1:s'.d1=s.d1∨AM s'.d1<AM s.d1
 s0:∀v,mem s'.d0 v->mem s.d0 v
 s1:∀v,mem s'.d1 v->mem s.d1 v
theorem Gr.refl s:Gr s s:=⟨rfl,rfl,rfl,⟨[],by simp,rfl⟩,QJ _,λa b=>⟨a,b⟩,λa b=>⟨a,b⟩,.inl rfl,.inl rfl,λZ h=>h,λZ h=>h⟩
def MQ {d u j}(a:u=d∨AM u<AM d)(b:j=u∨AM j<AM u):j=d∨AM j<AM d:=by
 rcases a with rfl|a<;>rcases b with rfl|b
 · show .inl rfl
 · show .inr b
 · show .inr a
 · show .inr (Nat.lt_trans b a)
theorem Gr.trans {s s' s''}(a:Gr s s')(b:Gr s' s''):Gr s s'' where
 f0:=b.f0.trans a.f0
 f1:=b.f1.trans a.f1
 ms:=b.ms.trans a.ms
 ex:=by
  show AH a.ex λt h1 c=>?_;show AH b.ex λu k1 d=>?_;show⟨t++u,by rw[k1,h1,pj],by rw[G9,d,c]⟩
 sz:=EX b.sz a.sz
 g:=λx y=>let ⟨p,q⟩:=a.g x y;b.g p q
 z:=λx y=>let ⟨p,q⟩:=a.z x y;b.z p q
 c0:=MQ a.c0 b.c0
 c1:=MQ a.c1 b.c1
 s0:=λv h=>a.s0 v (b.s0 v h)
 s1:=λv h=>a.s1 v (b.s1 v h)
structure Nw (s s':SS):Prop where
 n0:s'.n0=(s.n0||decide (s'.d0≠s.d0))
 n1:s'.n1=(s.n1||decide (s'.d1≠s.d1))
def Rl {d u j}{n H C}(a:u=d∨AM u<AM d)(b:j=u∨AM j<AM u)(h:H=(n||decide (u≠d)))(k:C=(H||decide (j≠u))):C=(n||decide (j≠d)):=by
 subst k;subst h
 rcases a with rfl|a
 · simp
 · rcases b with rfl|b
   · simp
   · have h1:u≠d:=λe=>by rw[e] at a;show Zq _ a
     have c:j≠d:=λe=>by rw[e] at b;show Zq _ (Nat.lt_trans a b)
     simp[h1,c]
theorem Nw.refl s:Nw s s:=⟨by simp,by simp⟩
theorem Nw.trans {s s' s''}(a:Gr s s')(b:Gr s' s'')(h:Nw s s')(k:Nw s' s''):Nw s s'':=⟨Rl a.c0 b.c0 h.n0 k.n0,Rl a.c1 b.c1 h.n1 k.n1⟩
def GN x nd s:(nd=[]/\AJ x nd s=(false,{s with fl:=true}))∨(nd≠[]/\nd=s.dom x/\AJ x nd s=(true,s))∨(nd≠[]/\nd≠s.dom x/\AJ x nd s=(true,Kb x nd s)):=by
 by_cases h:nd=[]
 · show .inl ⟨h,by unfold AJ;rw[if_pos h]⟩
 · by_cases h':nd=s.dom x
   · show .inr (.inl ⟨h,h',by unfold AJ;rw[if_neg h,if_pos h']⟩)
   · show .inr (.inr ⟨h,h',by unfold AJ;rw[if_neg h,if_neg h']⟩)
theorem Gr.fail s:Gr s {s with fl:=true}:=⟨rfl,rfl,rfl,⟨[],by simp,rfl⟩,QJ _,λa b=>⟨a,b⟩,λa b=>⟨a,b⟩,.inl rfl,.inl rfl,λZ h=>h,λZ h=>h⟩
def Gr.new {x}{nd}{s}(hz:nd≠[])(hg:Aq (s.dom x)->Aq nd)(hl:AM nd<AM (s.dom x))(c:∀v,mem nd v->mem (s.dom x) v):Gr s (Kb x nd s):=by
 cases x
 · show⟨rfl,rfl,rfl,⟨[⟨false,s.d0,0,0,default⟩],rfl,rfl⟩,by
    change (s.tr++[_]).length+(AM nd+AM s.d1)<=_;have hl:AM nd<AM s.d0:=hl;rw[JT,uN];lia,λa b=>⟨hg a,b⟩,λa b=>⟨hz,b⟩,.inr hl,.inl rfl,c,λZ h=>h⟩
 · show⟨rfl,rfl,rfl,⟨[⟨true,s.d1,0,0,default⟩],rfl,rfl⟩,by
    change (s.tr++[_]).length+(AM s.d0+AM nd)<=_;have hl:AM nd<AM s.d1:=hl;rw[JT,uN];lia,λa b=>⟨a,hg b⟩,λa b=>⟨a,hz⟩,.inl rfl,.inr hl,λZ h=>h,c⟩
def Nw.new {x}{nd}{s}(h:nd≠s.dom x):Nw s (Kb x nd s):=by
 cases x
 · have h:nd≠s.d0:=h;show⟨by change true=_;simp[Kb,h],by change s.n1=_;simp[Kb]⟩
 · have h:nd≠s.d1:=h;show⟨by change s.n0=_;simp[Kb],by change true=_;simp[Kb,h]⟩
structure Kv (x:Bool) (o:Op) (k:Int) (s:SS) (r:Bool) (s':SS):Prop where
 gr:Gr s s'
 nw:Nw s s'
 sp:s'.sp=s.sp
 yes:r->s'.fl=s.fl/\s'.dom x=cut o (s.dom x) k
 no:r=false->s'={s with fl:=true}/\cut o (s.dom x) k=[]
 other:s'.dom (!x)=s.dom (!x)
def dx x nd s:(Kb x nd s).dom x=nd:=by cases x<;>rfl
def Uv x nd s:(Kb x nd s).dom (!x)=s.dom (!x):=by cases x<;>rfl
def C2 {x}{o}{k}{s}(hg:Aq (s.dom x)){r}{s'}(e:(r,s')=AJ x (cut o (s.dom x) k) s):Kv x o k s r s':=by
 rcases GN x (cut o (s.dom x) k) s with ⟨h1,a⟩|⟨h1,a,h3⟩|⟨h1,a,h3⟩
 · rw[a] at e;cases e;show⟨.fail s,⟨by simp,by simp⟩,rfl,λh=>(by cases h),λZ=>⟨rfl,h1⟩,by cases x<;>rfl⟩
 · rw[h3] at e;cases e;show⟨.refl _,.refl _,rfl,λZ=>⟨rfl,a.symm⟩,λh=>(by cases h),rfl⟩
 · rw[h3] at e;cases e;show⟨.new h1 (λg=>BA g k) ?_ ?_,.new a,?_,λZ=>⟨?_,dx ..⟩,λh=>(by cases h),Uv ..⟩
   · rcases dr (o:=o) hg k with h|h
     · show absurd h a
     · show h
   · intro v hv;rw[BO hg] at hv;show(DQ.mp hv).1
   · cases x<;>rfl
   · cases x<;>rfl
end
section
open PySem PySem.W PySem.Spec PySem.Calls PyProof.Rows
def Bm (nd d:Cf):Int:=if nd=d then 1 else if nd=[] then -1 else 0
def dy {nd d}(h:decide (nd=d)):Bm nd d=1:=by unfold Bm;rw[if_pos (AAL h)]
def dz {nd d}(h:decide (nd=d)=false)(h':decide (nd=[])):Bm nd d=-1:=by unfold Bm;rw[if_neg (NT h),if_pos (AAL h')]
def eA {nd d}(h:decide (nd=d)=false)(h':decide (nd=[])=false):Bm nd d=0:=by unfold Bm;rw[if_neg (NT h),if_neg (NT h')]
def Rm {nd d}:(Bm nd d !=1)=decide (nd≠d):=by
 unfold Bm
 by_cases h:nd=d
 · rw[if_pos h];simp[h]
 · rw[if_neg h]
   split<;>simp[h]
structure Af (s:SS):Prop extends E2 s where
 n0:s.d0≠[]
 n1:s.d1≠[]
 e0:s.f0≠[]
 e1:s.f1≠[]
 l0:s.f0.length<=2
 l1:s.f1.length<=2
structure Row where
 t:Cf->Int
 o:Op
 k:Int->Int
abbrev Cr (c:Int):Row:=⟨λd=>c * Ac d,.le,λm=>m.fdiv c⟩
abbrev EG (c:Int):Row:=⟨λd=>c * Ax d,.ge,λm=>-(m.fdiv (-c))⟩
abbrev MR (x:Bool)(c:Row)(room:Int)(s:SS):Cf:=cut c.o (s.dom x) (c.k (room+c.t (s.dom x)))
def PP (x:Bool)(c:Row)(room:Int)(s:SS):Bool×SS:=if MR x c room s=s.dom x then (true,s) else AJ x (MR x c room s) s
abbrev CC (c0 c1:Row)(c:Int)(s:SS):Int:=c-[c0.t s.d0,c1.t s.d1].sum
def BL (c0 c1:Row)(c:Int)(s:SS):Bool×SS:=
 if CC c0 c1 c s<0 then (false,{s with fl:=true})
 else match PP false c0 (CC c0 c1 c s) s with|(false,s')=>(false,s')|(true,s')=>PP true c1 (CC c0 c1 c s) s'
def HY {x}{c}{room:Int}{s}(h:(Bm (MR x c room s) (s.dom x) !=1)=false):PP x c room s=(true,s):=by
 rw[Rm] at h;unfold PP;rw[if_pos (Decidable.of_not_not (NT h))]
def EB {x}{c}{room:Int}{s}(h:(Bm (MR x c room s) (s.dom x) !=1)):PP x c room s=AJ x (MR x c room s) s:=by
 rw[Rm] at h;unfold PP;rw[if_neg (AAL h)]
def I3 {c0 c1}{c sp:Int}{fl n0 n1}{d0 d1 f0 f1}{tr ms}(h:decide (c-[c0.t d0,c1.t d1].sum<0)):(false,CS sp true d0 d1 f0 f1 tr ms n0 n1)=BL c0 c1 c (CS sp fl d0 d1 f0 f1 tr ms n0 n1):=by
 unfold BL;rw[if_pos (AAL h)]
def Wi {c0 c1}{c:Int}{s s'}{r}(h:decide (CC c0 c1 c s<0)=false)(h1:(Bm (MR false c0 (CC c0 c1 c s) s) (s.dom false) !=1))(e:(r,s')=AJ false (MR false c0 (CC c0 c1 c s) s) s)(hr:(!r)):(false,s')=BL c0 c1 c s:=by
 ext r
 · unfold BL;rw[if_neg (NT h),EB h1,<-e]
 · ext hr
def KQ {c0 c1}{c:Int}{s s' s''}{r r'}(h:decide (CC c0 c1 c s<0)=false)(h1:(Bm (MR false c0 (CC c0 c1 c s) s) (s.dom false) !=1))(e:(r,s')=AJ false (MR false c0 (CC c0 c1 c s) s) s)(hr:(!r)=false)
 (a:(Bm (MR true c1 (CC c0 c1 c s) s') (s'.dom true) !=1)) (b:(r',s'')=AJ true (MR true c1 (CC c0 c1 c s) s') s'):(r',s'')=BL c0 c1 c s:=by
  ext r
  · ext hr
  · unfold BL;rw[if_neg (NT h),EB h1,<-e];dsimp only;rw[EB a,<-b]
def Wj {c0 c1}{c:Int}{s s'}{r}(h:decide (CC c0 c1 c s<0)=false)(h1:(Bm (MR false c0 (CC c0 c1 c s) s) (s.dom false) !=1))(e:(r,s')=AJ false (MR false c0 (CC c0 c1 c s) s) s)(hr:(!r)=false)
 (a:(Bm (MR true c1 (CC c0 c1 c s) s') (s'.dom true) !=1)=false):(true,s')=BL c0 c1 c s:=by
  ext r
  · ext hr
  · unfold BL;rw[if_neg (NT h),EB h1,<-e];dsimp only;rw[HY a]
def KR {c0 c1}{c:Int}{s s''}{r'}(h:decide (CC c0 c1 c s<0)=false)(h1:(Bm (MR false c0 (CC c0 c1 c s) s) (s.dom false) !=1)=false)
 (a:(Bm (MR true c1 (CC c0 c1 c s) s) (s.dom true) !=1)) (b:(r',s'')=AJ true (MR true c1 (CC c0 c1 c s) s) s):(r',s'')=BL c0 c1 c s:=by
  unfold BL;rw[if_neg (NT h),HY h1];dsimp only;rw[EB a,<-b]
def Wk {c0 c1}{c:Int}{s}(h:decide (CC c0 c1 c s<0)=false)(h1:(Bm (MR false c0 (CC c0 c1 c s) s) (s.dom false) !=1)=false)
 (a:(Bm (MR true c1 (CC c0 c1 c s) s) (s.dom true) !=1)=false):(true,s)=BL c0 c1 c s:=by
  unfold BL;rw[if_neg (NT h),HY h1];dsimp only;rw[HY a]
def BG (h:(!b)):b=false:=by ext b;rfl;ext h
def A3 (h:(!b)=false):b:=by ext b;ext h;rfl
def bt (e:(r,s)=z)(h:(!r)):(false,s)=z:=by rw[<-e,BG h]
def bf (e:(r,s)=z)(h:(!r)=false):(true,s)=z:=by rw[<-e,A3 h]
theorem eB {i:Int}(a: -1000<=i)(b:i<=1000):small i:=⟨by lia,by lia⟩
theorem DL {i:Int}(a: -1000<=i:=by decide)(b:i<=1000:=by decide):small i:=eB a b
def Af.strike {s s'}{r x}{nd}(h:Af s)(hg:Aq nd)(hl:s.tr.length<900)(e:(r,s')=AJ x nd s):Af s':=by
 have b:∀a,(s.tr++[a]).length<=900:=λa=>by rw[JT,uN];lia
 rcases GN x nd s with ⟨_,q⟩|⟨_,_,q⟩|⟨hz,_,q⟩
 · rw[q] at e;cases e;show⟨⟨h.g0,h.g1,h.tr,h.ms⟩,h.n0,h.n1,h.e0,h.e1,h.l0,h.l1⟩
 · rw[q] at e;cases e;show h
 · rw[q] at e;cases e;cases x
   · show⟨⟨hg,h.g1,b _,h.ms⟩,hz,h.n1,h.e0,h.e1,h.l0,h.l1⟩
   · show⟨⟨h.g0,hg,b _,h.ms⟩,h.n0,hz,h.e0,h.e1,h.l0,h.l1⟩
def E3 (o:Op):Spec where
 P:=Int×Cf
 d:=(0,[])
 args:=λp=>[.d (.tup [.any,.str (opS o),.int p.1]),.d (.dom p.2)]
 cells:=λZ=>[]
 pre:=λp=>p.2.length<=2
 ext:=λl Z=>(rI (Ae (DH (Ae l 0)) 2),rD (Ae l 1))
 outs:=[NJ (λp=>.d (.int (Bm (cut o p.2 p.1) p.2))) λZ=>[]]
def ox (c0 c1:Int):Option AO:=some (.list [.d (.tup [.int c0,.int 0]),.d (.tup [.int c1,.int 1])])
def Ha (c0 c1:Int)(s:SS):AC:=E1 s 0++[ox c0 c1]
def YY (c0 c1:Int):Spec where
 P:=SS×Int
 d:=(IT,0)
 args:=λp=>[.ref 0,.ref 7,.d (.int p.2)]
 cells:=λp=>Ha c0 c1 p.1
 pre:=λp=>Af p.1
 ext:=λl σ=>(Dv σ 0,rI (Ae l 2))
 outs:=[NJ (λZ=>.d (.tp 2)) λp=>Ha c0 c1 p.1]
def spLe (c0 c1:Int)(R0 R1:Row):Spec where
 P:=Int×SS
 d:=(0,IT)
 args:=λp=>[.ref 0,.ref 7,.d (.int p.1)]
 cells:=λp=>Ha c0 c1 p.2
 pre:=λp=>(Af p.2/\p.2.tr.length<890)/\ -100<=p.1/\p.1<=100
 ext:=λl σ=>(rI (Ae l 2),Dv σ 0)
 outs:=[{Q:=Bool×SS,d:=(false,IT),res:=λZ q=>ba q.1,cells:=λZ q=>Ha c0 c1 q.2,post:=λp q=>q=BL R0 R1 p.1 p.2,ext:=λZ a σ=>(rB a,Dv σ 0),sel:=yes}]
def zM (i:Int)(a:AV):Bool:=decide (rI a=i)
def rOp (a:AV):Op:=Bool.rec (Bool.rec .ne .ge (rS a==(">=":Str))) .le (rS a==("<=":Str))
def YZ:=BZ (λi:Bool×Op=>Ai i.1 i.2) λl Z=>(zM 1 (Ae (DH (Ae l 1)) 0),rOp (Ae (DH (Ae l 1)) 1))
def kq:=BZ (λb:Bool=>E3 (Bool.rec .ge .le b)) λl Z=>rS (Ae (DH (Ae l 0)) 1)==("<=":Str)
def sM:List (Addr×Nat×Hl):=(B5,38,YZ)::(Jp,30,kq)::sK
def Z2:Jd:=Hx sM [] Cv Bs none
def c0S (n:Nat):Int:=match n with|0=>1|1=>1|2=>1|_=>-1
def c1S (n:Nat):Int:=match n with|0=>1|1=>-1|2=>2|3=>-1|4=>1|_=>-2
def Hm (n:Nat):Row:=match n with|0=>Cr 1|1=>Cr 1|2=>Cr 1|_=>EG (-1)
def Hn (n:Nat):Row:=match n with|0=>Cr 1|1=>EG (-1)|2=>Cr 2|3=>EG (-1)|4=>Cr 1|_=>EG (-2)
def xj (x y:Int):Nat:=Bool.rec (Bool.rec (Bool.rec 5 4 (decide (y=1))) 3 (decide (y=-1))) (Bool.rec (Bool.rec 2 1 (decide (y=-1))) 0 (decide (y=1))) (decide (x=1))
def pairAt (σ:AC)(i:Nat):Nat:=xj (rI (Ae (DH (Ae (rL σ i) 0)) 0)) (rI (Ae (DH (Ae (rL σ i) 1)) 0))
def refOf (l:List AV)(i:Nat):Nat:=(Es (Ae l i)).getD 0
def E4 (n:Nat):=YY (c0S n) (c1S n)
def CD (n:Nat):=spLe (c0S n) (c1S n) (Hm n) (Hn n)
def sN:List (Addr×Nat×Hl):=(Ag,34,BZ E4 λl σ=>pairAt σ (refOf l 1))::sM
def Z3:=Hx sN [] Cv Bs none
def sO:List (Addr×Nat×Hl):=(BB,60,BZ CD λl σ=>pairAt σ (refOf l 1))::sN
def Z4:=Hx sO [] Cv Bs none
def AZ (k:Nat)(c a b:Int):Bool:=match k with|0=>decide (a+b<=c)|1=>decide (a-b<=c)|2=>decide (a+2 * b<=c)|3=>decide (a+b≠c)|4=>decide (a-b≠c)|5=>decide (a+2 * b≠c)|6=>decide (a+b=c)|7=>decide (a-b=c)|_=>decide (a+2 * b=c)
structure Aa (K:Int->Int->Bool) (s:SS) (r:Bool) (s':SS):Prop where
 gr:Gr s s'
 nw:Nw s s'
 sp:s'.sp=s.sp
 fl:r->s'.fl=s.fl
 sol:∀a b,mem s.d0 a->mem s.d1 b->K a b->r/\mem s'.d0 a/\mem s'.d1 b
 fin:r->AT s'.d0->AT s'.d1->K (Ac s'.d0) (Ac s'.d1)
structure Bu (s:SS):Prop extends Af s where
 ok:s.fl=false
 sh:s.tr.length+(AM s.d0+AM s.d1)<=100
structure Uw (K:Int->Int->Bool) (s s':SS):Prop where
 gr:Gr s s'
 nw:Nw s s'
 sp:s'.sp=s.sp
 fl:s'.fl=s.fl
 sol:∀a b,mem s.d0 a->mem s.d1 b->K a b->mem s'.d0 a/\mem s'.d1 b
def Js (s:SS):List Int:=[Ac s.d0,Ax s.d0,Ac s.d1,Ax s.d1]
def ET (x:Bool):Spec where
 P:=SS
 d:=IT
 args:=λZ=>[.ref 0,.d (.int (CZ x))]
 cells:=λs=>E1 s 0
 pre:=λs=>Af s
 ext:=λZ σ=>Dv σ 0
 outs:=[NJ (λs=>ba (AT (s.dom x))) λs=>E1 s 0]
def eC:List (Addr×Nat×Hl):=(Ds,12,BZ ET λl Z=>zM 1 (Ae l 1))::sO
def Z5:Jd:=Hx eC [] Cv Bs none
def eD (k:Nat)(c:Int)(p:Nat):AC:=[some (.inst (Lg k) (p+1)),some (.ns (M7 k c (p+2))),some (.list (Oq k))]
def Hb (k:Nat)(c:Int)(s:SS):AC:=E1 s 0++eD k c 7
def rC (σ:AC)(p:Nat):Int:=rI (rF (rO σ (p+1)) "c")
def Bi (k:Nat):Spec where
 P:=SS×Int
 d:=(IT,0)
 args:=λZ=>[.ref 7,.ref 0]
 cells:=λp=>Hb k p.2 p.1
 pre:=λp=>Bu p.1/\0<=p.2/\p.2<=10
 ext:=λZ σ=>(Dv σ 0,rC σ 7)
 outs:=[{Q:=Bool×SS,d:=(false,IT),res:=λZ q=>ba q.1,cells:=λp q=>Hb k p.2 q.2,post:=λp q=>Aa (AZ k p.2) p.1 q.1 q.2,ext:=λZ a σ=>(rB a,Dv σ 0),sel:=yes}]
end
section
structure HA (c:Int) (R:Row):Prop where
 least:∀d,Aq d->d≠[]->∃v,mem d v/\R.t d=c * v/\∀w,mem d w->R.t d<=c * w
 cut:∀v m,holds R.o (R.k m) v=true<->c * v<=m
 ends:∀d,Aq d->d≠[]->Ac d=Ax d->R.t d=c * Ac d
theorem CW {c:Int}(h:0<c):HA c (Cr c) where
 least:=λd g z=>by
  obtain⟨h1,f,h3,i,j,a⟩:=ends g z;show⟨Ac d,h1,rfl,λw b=>Int.mul_le_mul_of_nonneg_left (a w b).1 (Int.le_of_lt h)⟩
 cut:=λv m=>by
  change decide (v<=m.fdiv c)=true<->_;rw[Oi,Int.fdiv_eq_ediv_of_nonneg m (Int.le_of_lt h),Int.le_ediv_iff_mul_le h,Int.mul_comm]
 ends:=λd Z Z Z=>rfl
theorem Dw {c:Int}(h:c<0):HA c (EG c) where
 least:=λd g z=>by
  obtain⟨h1,a,h3,i,j,b⟩:=ends g z;show⟨Ax d,a,rfl,λw f=>Int.mul_le_mul_of_nonpos_left (Int.le_of_lt h) (b w f).2⟩
 cut:=λv m=>by
  change decide (v≥ -(m.fdiv (-c)))=true<->_;have h':0< -c:=by lia
  rw[Oi,Int.fdiv_eq_ediv_of_nonneg m (Int.le_of_lt h')];have e:(v≥ -(m / -c))<->-v<=m / -c:=by lia
  rw[e,Int.le_ediv_iff_mul_le h',Int.neg_mul_neg,Int.mul_comm]
 ends:=λd Z Z e=>by change c * Ax d=c * Ac d;rw[e]
structure RowR (x:Bool) (P:Int->Prop) (s:SS) (r:Bool) (s':SS):Prop where
 gr:Gr s s'
 nw:Nw s s'
 sp:s'.sp=s.sp
 fl:r->s'.fl=s.fl
 yes:r->∀v,mem (s'.dom x) v=true<->mem (s.dom x) v/\P v
 no:r=false->∀v,mem (s.dom x) v->¬P v
 other:s'.dom (!x)=s.dom (!x)
def Rn {x}{c}{R}(ok:HA c R){room}{s s'}{r}(hg:Aq (s.dom x))(e:(r,s')=PP x R room s):RowR x (λv=>c * v<=room+R.t (s.dom x)) s r s':=by
 unfold PP at e;have hm:∀v,mem (MR x R room s) v=true<->mem (s.dom x) v/\c * v<=room+R.t (s.dom x):=λv=>by
  unfold MR;rw[BO hg,DQ,ok.cut]
 by_cases q:MR x R room s=s.dom x
 · rw[if_pos q] at e;cases e;show⟨.refl _,.refl _,rfl,λY=>rfl,λY v=>by rw[<-hm,q],λh=>(by cases h),rfl⟩
 · rw[if_neg q] at e;have Z:=C2 (o:=R.o) (k:=R.k (room+R.t (s.dom x))) hg e;show⟨Z.gr,Z.nw,Z.sp,λh=>(Z.yes h).1,λh v=>by show((Z.yes h).2)▸?_;show hm v,λh v hv p=>?_,Z.other⟩;have h1:=(hm v).mpr ⟨hv,p⟩;have a:MR x R room s=[]:=(Z.no h).2;rw[a] at h1;ext h1
structure LeR (c0 c1 c:Int) (R0 R1:Row) (s:SS) (r:Bool) (s':SS):Prop where
 gr:Gr s s'
 nw:Nw s s'
 sp:s'.sp=s.sp
 fl:r->s'.fl=s.fl
 sol:∀a b,mem s.d0 a->mem s.d1 b->c0 * a+c1 * b<=c->r/\mem s'.d0 a/\mem s'.d1 b
 room:r->R0.t s.d0+R1.t s.d1<=c
 fin:r->AT s'.d0->AT s'.d1->c0 * Ac s'.d0+c1 * Ac s'.d1<=c
def GO {c0 c1 c}{R0 R1}(k:HA c0 R0)(l:HA c1 R1){s s'}{r}(i:Aq s.d0)(j:Aq s.d1)(m:s.d0≠[])(n:s.d1≠[])(e:(r,s')=BL R0 R1 c s):LeR c0 c1 c R0 R1 s r s':=by
 obtain⟨t,m0,t0,l0⟩:=k.least _ i m;obtain⟨p,m1,t1,l1⟩:=l.least _ j n;have d:CC R0 R1 c s=c-(R0.t s.d0+R1.t s.d1):=by change c-(R0.t s.d0+(R1.t s.d1+0))=_;lia
 unfold BL at e
 by_cases q:CC R0 R1 c s<0
 · rw[if_pos q] at e;cases e;show⟨.fail s,⟨by simp,by simp⟩,rfl,λh=>(by cases h),λa b f hb hk=>?_,λh=>(by cases h),λh=>(by cases h)⟩;have:=l0 a f;have:=l1 b hb;rw[d] at q;lia
 · rw[if_neg q] at e;cases q0:PP false R0 (CC R0 R1 c s) s with
   |mk r0 s0=>
    rw[q0] at e;have Z0:=Rn k (x:=false) (room:=CC R0 R1 c s) (s:=s) i q0.symm;have e1:s0.d1=s.d1:=Z0.other;have A:∀a b,mem s.d0 a->mem s.d1 b->c0 * a+c1 * b<=c->r0:=λa b f hb hk=>by
     cases r0 with
     |true=>rfl
     |false=>
      show absurd ?_ (Z0.no rfl a f);change c0 * a<=CC R0 R1 c s+R0.t s.d0;have:=l1 b hb;show(d)▸?_;lia
    cases r0 with
    |false=>
     dsimp only at e;cases e;show⟨Z0.gr,Z0.nw,Z0.sp,λh=>(by cases h),λa b f hb hk=>(by cases A a b f hb hk),λh=>(by cases h),λh=>(by cases h)⟩
    |true=>
     dsimp only at e;have g1:Aq s0.d1:=by rw[e1];show j
     have Z1:=Rn l (x:=true) (room:=CC R0 R1 c s) (s:=s0) g1 e;have e0:s'.d0=s0.d0:=Z1.other;have u:R1.t (s0.dom true)=R1.t s.d1:=by change R1.t s0.d1=_;rw[e1]
     have g:∀a b,mem s.d0 a->mem s.d1 b->c0 * a+c1 * b<=c->c1 * b<=CC R0 R1 c s+R1.t (s0.dom true):=λa b f hb hk=>by
      have:=l0 a f;rw[u,d];lia
     have w:∀v,mem s0.d0 v=true<->mem s.d0 v/\c0 * v<=CC R0 R1 c s+R0.t s.d0:=Z0.yes rfl;show⟨Z0.gr.trans Z1.gr,Z0.nw.trans Z0.gr Z1.gr Z1.nw,Z1.sp.trans Z0.sp,λh=>(Z1.fl h).trans (Z0.fl rfl),λa b f hb hk=>?_,λZ=>?_,λh f0 f1=>?_⟩
     · have o:mem (s0.dom true) b:=by change mem s0.d1 b;show(e1)▸?_;show hb
       have hr:r:=by
        cases hr:r with
        |true=>rfl
        |false=>show absurd (g a b f hb hk) (Z1.no hr b o)
       show⟨hr,?_,((Z1.yes hr) b).mpr ⟨o,g a b f hb hk⟩⟩;show(e0)▸?_;show(w a).mpr ⟨f,?_⟩;have:=l1 b hb;show(d)▸?_;lia
     · rw[d] at q;lia
     · have y:=(Z0.gr.trans Z1.gr).z m n;have z:=(Z0.gr.trans Z1.gr).g i j;have k0:mem s'.d0 t:=by
        show(e0)▸?_;show(w t).mpr ⟨m0,?_⟩;rw[<-t0];lia
       have k1:mem s'.d1 p:=by
        show((Z1.yes h) p).mpr ⟨by change mem s0.d1 p;show(e1)▸?_;show m1,?_⟩;rw[u,<-t1];lia
       have B:=(Co z.1 y.1 f0 t).mp k0;have C:=(Co z.2 y.2 f1 p).mp k1;rw[<-B,<-C,<-t0,<-t1];rw[d] at q;lia
theorem Bu.of (h:Bu s)(g:Gr s s')(f:s'.fl=s.fl):Bu s' where
 g0:=(g.g h.g0 h.g1).1
 g1:=(g.g h.g0 h.g1).2
 tr:=by have:=g.sz;have:=h.sh;lia
 ms:=by rw[g.ms];show h.ms
 n0:=(g.z h.n0 h.n1).1
 n1:=(g.z h.n0 h.n1).2
 e0:=by rw[g.f0];show h.e0
 e1:=by rw[g.f1];show h.e1
 l0:=by rw[g.f0];show h.l0
 l1:=by rw[g.f1];show h.l1
 ok:=by rw[f];show h.ok
 sh:=EX g.sz h.sh
def Bu.tr_lt (h:Bu s):s.tr.length<890:=by have:=h.sh;lia
def sP {c:Int}(h:0<=c/\c<=10): -100<=c:=by lia
def sQ {c:Int}(h:0<=c/\c<=10):c<=100:=by lia
def zN {c:Int}(h:0<=c/\c<=10): -100<=-c:=by lia
def zO {c:Int}(h:0<=c/\c<=10): -c<=100:=by lia
def Ro {c c':Int}(e:c'=c)(h:0<=c/\c<=10):0<=c'/\c'<=10:=by rw[e];show h
structure Rp (K:Int->Int->Bool) (c1 c:Int) (R0 R1:Row):Prop where
 k0:HA 1 R0
 k1:HA c1 R1
 hK:∀a b,K a b=true<->1 * a+c1 * b<=c
theorem sR (c:Int):Rp (AZ 0 c) 1 c (Cr 1) (Cr 1):=⟨CW ∅,CW ∅,λa b=>Iff.trans Oi (by lia)⟩
theorem sS (c:Int):Rp (AZ 1 c) (-1) c (Cr 1) (EG (-1)):=⟨CW ∅,Dw ∅,λa b=>Iff.trans Oi (by lia)⟩
theorem sT (c:Int):Rp (AZ 2 c) 2 c (Cr 1) (Cr 2):=⟨CW ∅,CW ∅,λa b=>Iff.trans Oi (by lia)⟩
def Rp.prop {K}{c1 c}{R0 R1}(X:Rp K c1 c R0 R1){s s'}{r}(h:Bu s)(e:(r,s')=BL R0 R1 c s):Aa K s r s':=by
 have Z:=GO X.k0 X.k1 h.g0 h.g1 h.n0 h.n1 e;show⟨Z.gr,Z.nw,Z.sp,Z.fl,λa b d hb k=>Z.sol a b d hb ((X.hK a b).mp k),λhr f0 f1=>(X.hK _ _).mpr (Z.fin hr f0 f1)⟩
structure HB (K:Int->Int->Bool) (c1 c:Int) (R0 R1 Q0 Q1:Row):Prop where
 k0:HA 1 R0
 k1:HA c1 R1
 q0:HA (-1) Q0
 q1:HA (-c1) Q1
 hK:∀a b,K a b=true<->1 * a+c1 * b=c
theorem sU (c:Int):HB (AZ 6 c) 1 c (Cr 1) (Cr 1) (EG (-1)) (EG (-1)):=⟨CW ∅,CW ∅,Dw ∅,Dw ∅,λa b=>Iff.trans Oi (by lia)⟩
theorem C3 (c:Int):HB (AZ 7 c) (-1) c (Cr 1) (EG (-1)) (EG (-1)) (Cr 1):=⟨CW ∅,Dw ∅,Dw ∅,CW ∅,λa b=>Iff.trans Oi (by lia)⟩
theorem sV (c:Int):HB (AZ 8 c) 2 c (Cr 1) (Cr 2) (EG (-1)) (EG (-2)):=⟨CW ∅,CW ∅,Dw ∅,Dw ∅,λa b=>Iff.trans Oi (by lia)⟩
theorem Uw.refl K s:Uw K s s:=⟨.refl _,.refl _,rfl,rfl,λa b c hb Z=>⟨c,hb⟩⟩
theorem Uw.trans (a:Uw K s s')(b:Uw K s' s''):Uw K s s'':=⟨a.gr.trans b.gr,a.nw.trans a.gr b.gr b.nw,b.sp.trans a.sp,b.fl.trans a.fl,λx y hx c k=>by
 obtain⟨p,q⟩:=a.sol x y hx c k;show b.sol x y p q k⟩
theorem Uw.fails (a:Uw K s s')(b:Aa K s' false s''):Aa K s false s'':=⟨a.gr.trans b.gr,a.nw.trans a.gr b.gr b.nw,b.sp.trans a.sp,λh=>(by ext h),λx y hx c k=>by
 obtain⟨p,q⟩:=a.sol x y hx c k;show absurd (b.sol x y p q k).1 ∅,λh=>(by ext h)⟩
section
variable {K:Int->Int->Bool}{c1 c:Int}{R0 R1 Q0 Q1:Row}(X:HB K c1 c R0 R1 Q0 Q1){s s' s'':SS}{r r':Bool}(h:Bu s)(e:(r,s')=BL R0 R1 c s)
include X h e
def HB.fail1 (n:(!r)):Aa K s false s':=by
 have Z:=GO X.k0 X.k1 h.g0 h.g1 h.n0 h.n1 e;cases BG n;show⟨Z.gr,Z.nw,Z.sp,Z.fl,λa b c hb k=>Z.sol a b c hb (Int.le_of_eq ((X.hK a b).mp k)),λh=>(by ext h)⟩
def HB.half (n:(!r)=false):Uw K s s':=by
 have Z:=GO X.k0 X.k1 h.g0 h.g1 h.n0 h.n1 e;show⟨Z.gr,Z.nw,Z.sp,Z.fl (A3 n),λa b c hb k=>(Z.sol a b c hb (Int.le_of_eq ((X.hK a b).mp k))).2⟩
theorem HB.pre1 (n:(!r)=false):Bu s':=h.of (X.half h e n).gr (X.half h e n).fl
def HB.fail2 (n:(!r)=false)(d:(r',s'')=BL Q0 Q1 (-c) s')(f:(!r')):Aa K s false s'':=by
 have h':=X.pre1 h e n;have Z:=GO X.q0 X.q1 h'.g0 h'.g1 h'.n0 h'.n1 d;cases BG f;show(X.half h e n).fails ⟨Z.gr,Z.nw,Z.sp,Z.fl,λa b g hb k=>Z.sol a b g hb ?_,λh=>(by ext h)⟩;have:=(X.hK a b).mp k;have e1: -1 * a+ -c1 * b=-(1 * a+c1 * b):=by rw[Int.neg_mul,Int.neg_mul,Int.neg_add]
 rw[e1,this];show Int.le_refl _
def HB.full (n:(!r)=false)(d:(r',s'')=BL Q0 Q1 (-c) s')(f:(!r')=false):Uw K s s'':=by
 have h':=X.pre1 h e n;have Z:=GO X.q0 X.q1 h'.g0 h'.g1 h'.n0 h'.n1 d;show(X.half h e n).trans ⟨Z.gr,Z.nw,Z.sp,Z.fl (A3 f),λa b g hb k=>(Z.sol a b g hb ?_).2⟩;have:=(X.hK a b).mp k;have e1: -1 * a+ -c1 * b=-(1 * a+c1 * b):=by rw[Int.neg_mul,Int.neg_mul,Int.neg_add]
 rw[e1,this];show Int.le_refl _
theorem HB.pre2 (n:(!r)=false)(a:(r',s'')=BL Q0 Q1 (-c) s')(b:(!r')=false):Bu s'':=h.of (X.full h e n a b).gr (X.full h e n a b).fl
def HB.fin (n:(!r)=false)(b:(r',s'')=BL Q0 Q1 (-c) s')(d:(!r')=false)(hb:Js s=Js s'')(f0:AT s''.d0)(f1:AT s''.d1):K (Ac s''.d0) (Ac s''.d1):=by
 have h':=X.pre1 h e n;have a:=X.pre2 h e n b d;have Z:=GO X.k0 X.k1 h.g0 h.g1 h.n0 h.n1 e;have g:=GO X.q0 X.q1 h'.g0 h'.g1 h'.n0 h'.n1 b;have a1:=Z.room (A3 n);have i:=g.fin (A3 d) f0 f1;unfold Js at hb;simp only[List.cons.injEq,and_true] at hb;obtain⟨b0,b1,f,j⟩:=hb;have q0:=(GL _ a.g0 a.n0).mp f0;have q1:=(GL _ a.g1 a.n1).mp f1;have t0:=X.k0.ends _ h.g0 h.n0 (by rw[b0,b1];show q0);have t1:=X.k1.ends _ h.g1 h.n1 (by rw[f,j];show q1);rw[t0,t1,b0,f] at a1;have e1: -1 * Ac s''.d0+ -c1 * Ac s''.d1=-(1 * Ac s''.d0+c1 * Ac s''.d1):=by rw[Int.neg_mul,Int.neg_mul,Int.neg_add]
 rw[e1] at i;show(X.hK _ _).mpr (by lia)
end
structure KS (K:Int->Int->Bool) (c1 c:Int):Prop where
 nz:c1≠0
 hK:∀a b,K a b=true<->a+c1 * b≠c
theorem sW (c:Int):KS (AZ 3 c) 1 c:=⟨∅,λa b=>Iff.trans Oi (by lia)⟩
theorem EH (c:Int):KS (AZ 4 c) (-1) c:=⟨∅,λa b=>Iff.trans Oi (by lia)⟩
theorem sX (c:Int):KS (AZ 5 c) 2 c:=⟨∅,λa b=>Oi⟩
theorem D1 (h:AT s.d0->AT s.d1->False):Aa K s true s:=⟨.refl _,.refl _,rfl,λZ=>rfl,λa b c hb Z=>⟨rfl,c,hb⟩,λZ f0 f1=>(h f0 f1).elim⟩
section
variable {K:Int->Int->Bool}{c1 c:Int}(X:KS K c1 c){s s':SS}{r:Bool}(h:Bu s)
include X h
def KS.x {q}(f:(!AT s.d1)=false)(hq:q=c-c1 * Ac s.d1)(e:(r,s')=AJ false (cut .ne s.d0 q) s):Aa K s r s':=by
 have f:=A3 f;have Z:=C2 (x:=false) (o:=.ne) (k:=q) h.g0 e;have e1:s'.d1=s.d1:=Z.other;show⟨Z.gr,Z.nw,Z.sp,λhr=>(Z.yes hr).1,λa b i hb k=>?_,λhr f0 f1=>?_⟩
 · have g:=(Co h.g1 h.n1 f b).mp hb;have hk:=(X.hK a b).mp k;have d:mem (cut .ne s.d0 q) a:=by
    rw[BO h.g0,i];change decide (a≠q);rw[Oi];intro z;apply hk;rw[z,hq,g];lia
   have hr:r:=by
    cases hr:r with
    |true=>rfl
    |false=>have j:cut .ne s.d0 q=[]:=(Z.no hr).2;rw[j] at d;ext d
   have h3:s'.d0=cut .ne s.d0 q:=(Z.yes hr).2;show⟨hr,by rw[h3];show d,by rw[e1];show hb⟩
 · have h3:s'.d0=cut .ne s.d0 q:=(Z.yes hr).2;have l:=Z.gr.g h.g0 h.g1;have m:=Z.gr.z h.n0 h.n1;have m0:=(ends l.1 m.1).1;rw[h3,BO h.g0] at m0;have m0:decide (Ac (cut .ne s.d0 q)≠q):=(DQ.mp m0).2;rw[Oi] at m0;show(X.hK _ _).mpr λz=>?_;rw[h3,e1] at z;apply m0;rw[hq];lia
def KS.y {q}(f:(!AT s.d0)=false)(hq:c1 * q=c-Ac s.d0)(e:(r,s')=AJ true (cut .ne s.d1 q) s):Aa K s r s':=by
 have f:=A3 f;have Z:=C2 (x:=true) (o:=.ne) (k:=q) h.g1 e;have e1:s'.d0=s.d0:=Z.other;show⟨Z.gr,Z.nw,Z.sp,λhr=>(Z.yes hr).1,λa b i hb k=>?_,λhr f0 f1=>?_⟩
 · have g:=(Co h.g0 h.n0 f a).mp i;have hk:=(X.hK a b).mp k;have d:mem (cut .ne s.d1 q) b:=by
    rw[BO h.g1,hb];change decide (b≠q);rw[Oi];intro z;apply hk;rw[z,hq,g];lia
   have hr:r:=by
    cases hr:r with
    |true=>rfl
    |false=>have j:cut .ne s.d1 q=[]:=(Z.no hr).2;rw[j] at d;ext d
   have h3:s'.d1=cut .ne s.d1 q:=(Z.yes hr).2;show⟨hr,by rw[e1];show i,by rw[h3];show d⟩
 · have h3:s'.d1=cut .ne s.d1 q:=(Z.yes hr).2;have l:=Z.gr.g h.g0 h.g1;have m:=Z.gr.z h.n0 h.n1;have m0:=(ends l.2 m.2).1;rw[h3,BO h.g1] at m0;have m0:decide (Ac (cut .ne s.d1 q)≠q):=(DQ.mp m0).2;rw[Oi] at m0;show(X.hK _ _).mpr λz=>?_;rw[h3,e1] at z;have:c1 * Ac (cut .ne s.d1 q)=c1 * q:=by rw[hq];lia
   show m0 (Int.eq_of_mul_eq_mul_left X.nz this)
def KS.both_t (d:(!AT s.d0)=false)(f:(!AT s.d1)=false){b}(e:b=(c-1 * Ac s.d0-c1 * Ac s.d1 !=0))(hb:b):Aa K s b s:=by
 have d:=A3 d;have f:=A3 f;rw[hb];rw[hb] at e;have e:c-1 * Ac s.d0-c1 * Ac s.d1≠0:=by intro z;rw[z] at e;ext e
 show⟨.refl _,.refl _,rfl,λZ=>rfl,λa b g hb Z=>⟨rfl,g,hb⟩,λZ Z Z=>(X.hK _ _).mpr λz=>e (by lia)⟩
def KS.both_f (d:(!AT s.d0)=false)(f:(!AT s.d1)=false)(e:(c-1 * Ac s.d0-c1 * Ac s.d1 !=0)=false):Aa K s false {s with fl:=true}:=by
 have d:=A3 d;have f:=A3 f;have e:c-1 * Ac s.d0-c1 * Ac s.d1=0:=by
  rw[bne_eq_false_iff_eq] at e;show e
 show⟨.fail s,⟨by simp,by simp⟩,rfl,λh=>(by ext h),λa b j hb k=>?_,λh=>(by ext h)⟩;have g:=(Co h.g0 h.n0 d a).mp j;have i:=(Co h.g1 h.n1 f b).mp hb;show absurd ?_ ((X.hK a b).mp k);rw[g,i];lia
end
theorem Wl {c c1 y:Int}:(c-c1 * y).fdiv 1=c-c1 * y:=Int.fdiv_one _
def Wm {c c1 x:Int}(h:((c-1 * x).fmod c1 !=0)=false):c1 * (c-1 * x).fdiv c1=c-x:=by
 have h:(c-1 * x).fmod c1=0:=by rw[bne_eq_false_iff_eq] at h;show h
 have:=Int.mul_fdiv_add_fmod (c-1 * x) c1;rw[h] at this;omega
theorem Jt {s:SS}(h:(!AT s.d0)):AT s.d0->AT s.d1->False:=λf Z=>by rw[f] at h;ext h
theorem PQ {s:SS}(h:(!AT s.d1)):AT s.d0->AT s.d1->False:=λZ f=>by rw[f] at h;ext h
def xk {d}(h:((d.length:Int)==1)):((d.headD (0,0)).1==(d.headD (0,0)).2)=AT d:=by
 have h:d.length=1:=by have:=Fz.mp h;lia
 unfold AT;rw[h];simp;rfl
def xl {d}(h:((d.length:Int)==1)=false):((d.length:Int)==1)=AT d:=by
 rw[h];have h:d.length≠1:=by intro z;rw[z] at h;ext h
 unfold AT;simp[h]
end
section
open PySem PySem.W PySem.Spec PySem.Calls PyProof.Rows
abbrev zP:=SS×Int×(Int×Int)×(Int×Int)
def sY (p:zP):List Int:=[p.2.2.1.1,p.2.2.1.2,p.2.2.2.1,p.2.2.2.2]
structure AX (k:Nat) (p₀ p:zP):Prop where
 pre:Bu p.1
 st:Uw (AZ k p.2.1) p₀.1 p.1
 c:p.2.1=p₀.2.1
 fin:sY p=Js p.1->AT p.1.d0->AT p.1.d1->AZ k p.2.1 (Ac p.1.d0) (Ac p.1.d1)
def oy (n:Nat):AC:=match n with|0=>[]|n+1=>none::oy n
def kr (k:Nat)(p:zP):AC:=Hb k p.2.1 p.1++([some (.ns [("self",.ref 7),("store",.ref 0),("before",.ref 40),("turned",.ref 12)]),none,ox (-1) (-qx k),none]++(oy 26++[some (.list [.d (pairD p.2.2.1),.d (pairD p.2.2.2)])]))
def oz (a:AV):Int×Int:=(rI (Ae (DH a) 0),rI (Ae (DH a) 1))
def MS (k:Nat):Fm where
 P:=zP
 d:=(IT,0,(0,0),(0,0))
 n:=40
 cells:=kr k
 inv:=AX k
 meas:=λp=>AM p.1.d0+AM p.1.d1+(if sY p=Js p.1 then 0 else 1)
 ext:=λσ=>(Dv σ 0,rC σ 7,oz (Ae (rL σ 40) 0),oz (Ae (rL σ 40) 1))
def xm (k:Nat)(line:Nat):Option Hk:=Bool.rec none (some (.peel (MS k))) (Nat.beq line 1612)
def sZ (k:Nat):=Hx eC [] (xm k) Bs none
def o0 {k}{c}{s}{p₀ p}(h:AX k p₀ p)(A:Uw (AZ k c) s p₀.1)(hc:p₀.2.1=c)(q:sY p=Js p.1):Aa (AZ k c) s true p.1:=by
 have d:=h.c.trans hc;have st:=h.st;have fin:=h.fin q;rw[d] at st fin;have B:=A.trans st;show⟨B.gr,B.nw,B.sp,λZ=>B.fl,λa b f hb k=>⟨rfl,B.sol a b f hb k⟩,λZ=>fin⟩
def PR {k}{c}{s s'}{p₀ p}(h:AX k p₀ p)(A:Uw (AZ k c) s p₀.1)(hc:p₀.2.1=c)(q:Aa (AZ k p.2.1) p.1 false s'):Aa (AZ k c) s false s':=by
 have a:=h.c.trans hc;have st:=h.st;rw[a] at st q;show(A.trans st).fails q
def OE {s s'}{b}(g:Gr s s')(hb:b≠Js s):AM s'.d0+AM s'.d1+(if Js s=Js s' then 0 else 1)<AM s.d0+AM s.d1+(if b=Js s then 0 else 1):=by
 show(if_neg hb)▸?_
 rcases g.c0 with c0|c0<;>rcases g.c1 with c1|c1
 · have:Js s=Js s':=by unfold Js;rw[c0,c1]
   rw[if_pos this,c0,c1];lia
 · show(c0)▸?_;split<;>lia
 · show(c1)▸?_;split<;>lia
 · split<;>lia
def Wn {σ j}(e:j.map (Option.map AO.nf)=σ.map (Option.map AO.nf)){i}{ao'}(h:live j i ao'):∃ao,live σ i ao/\ao.nf=ao'.nf:=by
 have h1:(j.map (Option.map AO.nf))[i]?=some (some ao'.nf):=by rw[Vm,show j[i]?=some (some ao') from h];rfl
 rw[e,Vm] at h1;cases q:σ[i]? with
 |none=>rw[q] at h1;ext h1
 |some o=>
  rw[q] at h1;cases o with
  |none=>cases h1
  |some ao=>show⟨ao,q,M1 (M1 h1)⟩
def AL.nf_eq {P}{W}{γ}{h}{ao ao'}{a}(e:ao.nf=ao'.nf)(r:AL P W γ h ao a):AL P W γ h ao' a:=by
 unfold AL at r ⊢;rw[<-e];show r
theorem FC.same (R:FC S γ σ s)(e:j.map (Option.map AO.nf)=σ.map (Option.map AO.nf)):FC S γ j s:=
 R.next (by have:=congrArg List.length e;rwa [Ei,Ei] at this) (λZ Z Z h=>h)
  (λi ao a h1 c=>AH (Wn e h1) λb h3 d=>(R.cells i b a h3 c).nf_eq d) (λi ao h1=>AH (Wn e h1) λb h3 Z=>⟨b,h3⟩) rfl rfl
def AAV (k:Nat)(c:Int)(p:Nat):AC:=[some (.kd .vi k 0 (p+1)),some (.kd .vn k c (p+2)),some (.kd .vr k 0 0)]
def MT (k:Nat):Spec where
 P:=SS×Int
 d:=(IT,0)
 args:=λZ=>[.ref 7,.ref 0]
 cells:=λp=>E1 p.1 0++AAV k p.2 7
 pre:=λp=>Bu p.1/\(0<=p.2/\p.2<=10)/\k<9
 ext:=λZ σ=>(Dv σ 0,(km (rO σ 8)).2)
 outs:=[{Q:=Bool×SS,d:=(false,IT),res:=λZ q=>ba q.1,cells:=λp q=>E1 q.2 0++AAV k p.2 7,post:=λp q=>Aa (AZ k p.2) p.1 q.1 q.2,ext:=λZ a σ=>(rB a,Dv σ 0),sel:=yes}]
def kt {S}{m k}{a}(h:DR S m a (Bi k)):DR S m a (MT k):=by
 intro p hp c hc vs rs A hr Q q;show h p ⟨hp.1,hp.2.1⟩ ⟨c.γ,Hb k p.2 p.1,c.s,c.R.same (by rw[hc];rfl)⟩ rfl vs rs A hr Q λav c' v hx l d=>?_;obtain⟨o,m,q',b,e1,f⟩:=hx;cases Vo.mp m;show q av ⟨c'.γ,E1 q'.2 0++AAV k p.2 7,c'.s,c'.R.same (by rw[f];rfl)⟩ v ⟨_,Sg ..,q',b,e1,rfl⟩ ⟨l.pre,l.tk⟩ d
def Ux {K}{S}(H:BX K S TT) k:isFn S (Gv k):=by
 have h:∀x:Nat,isFn S (Fi x 1832 1919 1877):=λx=>match x with|0=>Ks H (a:=1832) rfl|1=>Ks H (a:=1919) rfl|_+2=>Ks H (a:=1877) rfl
 show h (J9 k)
theorem Rq {S}{m}{f}(h:∀k,Gh S m (Gv k) (f k)/\isFn S (Gv k)):Jo S (some (m,f)):=λx e k=>by
 ext e;show h k
def De:Option (Nat×(Nat->Hl)):=some (76,λk=>MM (MT k))
theorem eE {K}{S}(H:BX K S TT)(h:∀k,k<9->∀S',Grows S S'->DR S' 76 (Gv k) (Bi k)):Jo S De:=Rq λk=>by
 show⟨PL λS' g=>?_,Ux H k⟩
 by_cases hk:k<9
 · show kt (h k hk S' g)
 · show λp hp=>absurd hp.2.2 hk
structure ES where
 due:Bool
 fb:Int
 w0:Bool
 w1:Bool
 u0:Bool
 u1:Bool
 b0:Bool
 b1:Bool
structure VS where
 k0:Nat
 c0:Int
 k1:Nat
 c1:Int
abbrev Ee:=ES.mk
abbrev H0:=VS.mk
abbrev AS:=SS×ES×VS
def eG:ES:=⟨false,0,false,false,false,false,false,false⟩
def vs0:VS:=⟨0,0,0,0⟩
def uZ:AS:=(IT,eG,vs0)
def cellAt (p q:Nat)(o:AO):Option AO:=Bool.rec none (some o) (Nat.beq p q)
def Ju (s:SS)(p mk nw:Nat):AC:=[some (.inst Ur (p+1)),
 some (.ns [("domains",.ref (p+2)),("firsts",.ref (p+3)),("trail",.ref (p+4)),("marks",.ref mk),("news",.ref nw),("speaker",.d (.int s.sp)),("is_failed",ba s.fl),("clash",.d .any)]),
 some (.list [.d (.dom s.d0),.d (.dom s.d1)]),some (.list [.d (.dom s.f0),.d (.dom s.f1)]),some (.tl .trl s.tr),cellAt mk (p+5) (.tl .int s.ms),cellAt nw (p+6) (.iset s.n0 s.n1)]
def eH (b:Bool):AO:=match b with|false=>.list [.d (.int 0)]|true=>.list [.d (.int 0),.d (.int 1)]
def sb (b:Bool)(p q:Nat):AO:=match b with|false=>.list [.ref p]|true=>.list [.ref p,.ref q]
def eJ (b:Bool)(v:VS)(p:Nat):AC:=match b with|false=>AAV v.k0 v.c0 p|true=>AAV v.k0 v.c0 p++AAV v.k1 v.c1 (p+3)
def sd (b:Bool)(x:ES)(p a c:Nat):AC:=[some (.inst Wg (p+1)),
 some (.ns [("store",.ref (p+9)),("propagators",.ref (p+2)),("users",.ref (p+3)),("waiting",.ref a),("unasked",.ref (p+7)),("book",.d nn),("book_news",.ref c),("is_book_due",ba x.due),("failed_by",.d (.int x.fb))]),
 some (sb b (p+16) (p+19)),some (.idict [(0,.ref (p+4)),(1,.ref (p+5))]),some (eH b),some (eH b),cellAt a (p+6) (.iset x.w0 x.w1),some (.iset x.u0 x.u1),cellAt c (p+8) (.iset x.b0 x.b1)]
def eL (b:Bool)(p:Nat)(a:AS):AC:=sd b a.2.1 p (p+6) (p+8)++(Ju a.1 (p+9) (p+14) (p+15)++eJ b a.2.2 (p+16))
def eM (s:SS)(x:ES):AC:=[some (.iset x.w0 x.w1),some (.iset x.b0 x.b1),some (.iset s.n0 s.n1)]
def eN (b:Bool)(p n:Nat)(a:AS):AC:=sd b a.2.1 p n (n+1)++(Ju a.1 (p+9) (p+14) (n+2)++eJ b a.2.2 (p+16))
def nE (b:Bool):Nat:=match b with|false=>19|true=>22
def rES (σ:AC)(p a b:Nat):ES where
 due:=rB (rF (rO σ (p+1)) "is_book_due")
 fb:=rI (rF (rO σ (p+1)) "failed_by")
 w0:=(NI (rO σ a)).1
 w1:=(NI (rO σ a)).2
 u0:=(NI (rO σ (p+7))).1
 u1:=(NI (rO σ (p+7))).2
 b0:=(NI (rO σ b)).1
 b1:=(NI (rO σ b)).2
def rVS (σ:AC)(p:Nat):VS where
 k0:=(km (rO σ p)).1
 c0:=(km (rO σ (p+1))).2
 k1:=(km (rO σ (p+3))).1
 c1:=(km (rO σ (p+4))).2
def GP (σ:AC)(p mk nw:Nat):SS where
 sp:=rI (rF (rO σ (p+1)) "speaker")
 fl:=rB (rF (rO σ (p+1)) "is_failed")
 d0:=rD (Ae (rL σ (p+2)) 0)
 d1:=rD (Ae (rL σ (p+2)) 1)
 f0:=rD (Ae (rL σ (p+3)) 0)
 f1:=rD (Ae (rL σ (p+3)) 1)
 tr:=Ce .trl (rO σ (p+4))
 ms:=Ce .int (rO σ mk)
 n0:=(NI (rO σ nw)).1
 n1:=(NI (rO σ nw)).2
def ku (σ:AC)(p:Nat):AS:=(GP σ (p+9) (p+14) (p+15),rES σ p (p+6) (p+8),rVS σ (p+16))
def OF (σ:AC)(p n:Nat):SS×ES:=(GP σ (p+9) (p+14) (n+2),rES σ p n (n+1))
def vL (k:Nat)(c:Int)(l:List Lf):List Lf:=.n k::.n k::.i c::.n k::l
def IU (s:SS):SS:={s with n0:=false,n1:=false}
def MU (b:Bool)(sp:Int)(s:SS)(x:ES):ES:={x with
 due:=s.n0||(s.n1||x.due)
 w0:=(decide (sp≠0)&&(s.n0||s.n1))||x.w0
 w1:=(b&&(decide (sp≠1)&&(s.n0||s.n1)))||x.w1
 b0:=s.n0||x.b0
 b1:=s.n1||x.b1}
def outW (b:Bool)(sp:AS->Int){P:Type}(f:P->AS):Re P:={Q:=SS×ES,d:=(IT,eG),res:=λZ Z=>.d nn,cells:=λp q=>eN b 0 (nE b) (q.1,q.2,(f p).2.2)++eM q.1 q.2,post:=λp q=>q=(IU (f p).1,MU b (sp (f p)) (f p).1 (f p).2.1),ext:=λZ Z σ=>OF σ 0 (nE b),sel:=yes}
def Cu (b:Bool)(sp:Int):Spec where
 P:=AS
 d:=uZ
 args:=λZ=>[.ref 0,.d (.int sp)]
 cells:=eL b 0
 pre:=λZ=>True
 ext:=λZ σ=>ku σ 0
 outs:=[outW b (λZ=>sp) id]
def IV (b:Bool):Spec where
 P:=Int×AS
 d:=(0,uZ)
 args:=λp=>[.ref 0,.d (.int p.1)]
 cells:=λp=>eL b 0 p.2
 pre:=λp=>p.1=-1∨p.1=0∨(p.1=1/\b)
 ext:=λl σ=>(rI (Ae l 1),ku σ 0)
 outs:=[{Q:=SS×ES,d:=(IT,eG),res:=λZ Z=>.d nn,cells:=λp q=>eN b 0 (nE b) (q.1,q.2,p.2.2.2)++eM q.1 q.2,post:=λp q=>q=(IU p.2.1,MU b p.1 p.2.1 p.2.2.1),ext:=λZ Z σ=>OF σ 0 (nE b),sel:=yes}]
def Wo {S}{m}{a}{b}(hm:DR S m a (Cu b (-1)))(h0:DR S m a (Cu b 0))(h1:b->DR S m a (Cu b 1)):DR S m a (IV b):=by
 have go:∀sp,DR S m a (Cu b sp)->∀p:Int×AS,p.1=sp->∀c:At S,c.σ=eL b 0 p.2->∀vs,c.VRs [.ref 0,.d (.int p.1)] vs->∀A,Ay A m->WK At.le At.VR .ret A c (.call (.ref a) ⟨vs,[]⟩) (Rf (IV b).outs p):=by
  intro sp h p e c hc vs rs A hr Q q;obtain⟨i,p⟩:=p;ext e;show h p trivial c hc vs rs A hr Q λav c' v hx l f=>?_;obtain⟨o,m,q',d,e1,g⟩:=hx;cases Vo.mp m;show q av c' v ⟨_,Sg ..,q',d,e1,g⟩ l f
 intro p hp
 rcases hp with e|e|⟨e,hb⟩
 · show go _ hm p e
 · show go _ h0 p e
 · show go _ (h1 hb) p e
def xn (σ:AC)(i:Nat):Bool:=Nat.beq (rL σ i).length 2
def Wp (l:List AV)(σ:AC):Bool:=Option.rec false (λi=>Option.rec false (λx=>Option.rec false (λfs=>Option.rec false (λa=>Option.rec false (λj=>xn σ j) (Es a)) (fs.lookup ("propagators":Str))) (Xp (rO σ x.2))) (IL (rO σ i))) (Es (Ae l 0))
def Z6:=Hx eC [] Cv Bs De
def se:List (Addr×Nat×Hl):=(Cn,20,BZ IV Wp)::eC
def Z7:Jd:=Hx se [] Cv Bs De
def eO (j:Bool)(v:VS):Int->Int->Bool:=match j with|false=>AZ v.k0 v.c0|true=>AZ v.k1 v.c1
structure VOk (k:Nat) (c:Int):Prop where
 lt:k<9
 c0:0<=c
 c1:c<=10
structure Uy (b:Bool) (v:VS):Prop where
 one:VOk v.k0 v.c0
 two:b->VOk v.k1 v.c1
 nil:b=false->v.k1=0/\v.c1=0
def AU (h:Uy false v):H0 v.k0 v.c0 0 0=v:=by
 obtain⟨k0,c0,k1,c1⟩:=v;obtain⟨h1,a⟩:=h.nil rfl;have h1:k1=0:=h1;have a:c1=0:=a;subst h1 a;rfl
structure Rr (b:Bool) (s:SS) (x:ES) (v:VS):Prop where
 pre:Bu s
 m0:s.n0=false
 m1:s.n1=false
 vs:Uy b v
 w:b=false->x.w1=false
def eP (j:Bool)(x:ES):ES:=match j with
 |false=>{x with w0:=false,u0:=false}
 |true=>{x with w1:=false,u1:=false}
structure Fb (b:Bool) (s:SS) (x:ES) (v:VS) (r:Bool) (s':SS) (x':ES):Prop where
 is:∃(j:Bool) (s₁:SS),(x.w0->j=false)/\(x.w0=false->j/\b)/\Aa (eO j v) {s with sp:=CZ j} r s₁/\s'=IU s₁/\
  x'=MU b (CZ j) s₁ (eP j x)
theorem Bu.speak (h:Bu s) i:Bu {s with sp:=i}:=⟨⟨⟨h.g0,h.g1,h.tr,h.ms⟩,h.n0,h.n1,h.e0,h.e1,h.l0,h.l1⟩,h.ok,h.sh⟩
theorem Zj (h:a=true∨b)(k:a=false):b:=h.resolve_left λz=>by rw[z] at k;ext k
def Aj {a:Bool}(h:a)(k:a=false){P:Prop}:P:=by rw[h] at k;ext k
theorem FG {b:Bool}{s s₁:SS}{x:ES}{q:SS×ES}{v:VS}{r:Bool} u (a:u=false)(c:x.w0)(P:Aa (eO false v) {s with sp:=0} r s₁)(hq:q=(IU s₁,MU b s₁.sp s₁ {x with w0:=false,u0:=u})):Fb b s x v r q.1 q.2:=
 ⟨false,s₁,λZ=>rfl,λz=>Aj c z,P,by rw[hq],by rw[hq,P.sp,a];rfl⟩
theorem Kw {b:Bool}{s s₁:SS}{x:ES}{q:SS×ES}{v:VS}{r:Bool} u (a:u=false)(hb:b)(c:x.w0=false)(P:Aa (eO true v) {s with sp:=1} r s₁)(hq:q=(IU s₁,MU b s₁.sp s₁ {x with w1:=false,u1:=u})):Fb b s x v r q.1 q.2:=
 ⟨true,s₁,λz=>Aj z c,λZ=>⟨rfl,hb⟩,P,by rw[hq],by rw[hq,P.sp,a];rfl⟩
def MV (b:Bool):Spec where
 P:=AS
 d:=uZ
 args:=λZ=>[.ref 0]
 cells:=eL b 0
 pre:=λp=>Rr b p.1 p.2.1 p.2.2/\(p.2.1.w0=true∨p.2.1.w1)
 ext:=λZ σ=>ku σ 0
 outs:=[{Q:=Bool×SS×ES,d:=(false,IT,eG),res:=λZ q=>ba q.1,cells:=λp q=>eN b 0 (nE b) (q.2.1,q.2.2,p.2.2)++eM q.2.1 q.2.2,post:=λp q=>Fb b p.1 p.2.1 p.2.2 q.1 q.2.1 q.2.2,ext:=λZ a σ=>(rB a,OF σ 0 (nE b)),sel:=yes}]
def eQ:List (Addr×Nat×Hl):=(Dc,88,BZ MV Wp)::se
def Z8:=Hx eQ [] Cv Bs De
theorem eR {A B c d e:Nat}(h:A+3<=B)(k:c+d<=1):A+(c+d)<B+e:=pd (jN (uL k A) (pd (Nat.add_lt_add_left (by decide:1<3) A) h)) (AAd B e)
def CO (b:Bool)(v:VS)(x y:Int):Bool:=eO false v x y&&(!b||eO true v x y)
structure Zk (K:Int->Int->Bool) (s s':SS):Prop where
 gr:Gr s s'
 fl:s'.fl=s.fl
 sol:∀a b,mem s.d0 a->mem s.d1 b->K a b->mem s'.d0 a/\mem s'.d1 b
structure eS (K:Int->Int->Bool) (s s':SS):Prop where
 gr:Gr s s'
 no:∀a b,mem s.d0 a->mem s.d1 b->K a b->False
structure One (b:Bool) (x:ES):Prop where
 w:b=false->x.w1=false
 u:b=false->x.u1=false
structure Fc (b:Bool) (s:SS) (x:ES) (v:VS):Prop where
 pre:Bu s
 vs:Uy b v
 one:One b x
 news:(s.n0||s.n1)=true∨(x.w0/\(b->x.w1))
def xo (j:Bool)(v:VS)(s:SS):=AT s.d0->AT s.d1->eO j v (Ac s.d0) (Ac s.d1)
abbrev LS:=AS×Bool
structure Ho (b:Bool) (s₀:SS) (v₀:VS) (s:SS) (x:ES) (v:VS) (st:Bool):Prop where
 ve:v=v₀
 vs:Uy b v
 m0:s.n0=false
 m1:s.n1=false
 one:One b x
 yes:st->Bu s/\Zk (CO b v) s₀ s/\(x.w0=false->xo false v s)/\(b->x.w1=false->xo true v s)
 no:st=false->eS (CO b v) s₀ s
def cnt (x:Bool):Nat:=match x with|true=>1|false=>0
def PU (b:Bool):Fm where
 P:=LS
 d:=(uZ,false)
 n:=nE b+4
 cells:=λp=>eN b 0 (nE b+4) p.1++(some (.ns [("self",.ref 0),("stands",ba p.2)])::none::none::none::eM p.1.1 p.1.2.1)
 inv:=λp₀ p=>Ho b p₀.1.1 p₀.1.2.2 p.1.1 p.1.2.1 p.1.2.2 p.2
 meas:=λp=>3 * (AM p.1.1.d0+AM p.1.1.d1)+(cnt p.1.2.1.w0+cnt p.1.2.1.w1)
 ext:=λσ=>(((OF σ 0 (nE b+4)).1,(OF σ 0 (nE b+4)).2,rVS σ 16),rB (rF (rO σ (nE b)) "stands"))
def o3 (b:Bool)(line:Nat):Option Hk:=Bool.rec none (some (.loop (PU b))) (Nat.beq line 1342)
def Z8e (b:Bool):Jd:=Hx eQ [] (o3 b) Bs De
structure CL (b:Bool) (s:SS) (v:VS) (s':SS) (x':ES):Prop where
 pre:Bu s'
 shr:Zk (CO b v) s s'
 fin:AT s'.d0->AT s'.d1->CO b v (Ac s'.d0) (Ac s'.d1)
 sp:s'.sp=-1
 m0:s'.n0=false
 m1:s'.n1=false
 one:One b x'
structure CM (b:Bool) (s:SS) (v:VS) (s':SS) (x':ES):Prop where
 dead:eS (CO b v) s s'
 sp:s'.sp=-1
 m0:s'.n0=false
 m1:s'.n1=false
 one:One b x'
def Kc (b:Bool)(a:AS)(r:Bool)(s':SS)(x':ES):=(r->CL b a.1 a.2.2 s' x')/\(r=false->CM b a.1 a.2.2 s' x')
def E5 (b:Bool):Spec where
 P:=AS
 d:=uZ
 args:=λZ=>[.ref 0]
 cells:=eL b 0
 pre:=λp=>Fc b p.1 p.2.1 p.2.2
 ext:=λZ σ=>ku σ 0
 outs:=[{Q:=Bool×SS×ES,d:=(false,IT,eG),res:=λZ q=>ba q.1,cells:=λp q=>eN b 0 (nE b) (q.2.1,q.2.2,p.2.2)++eM q.2.1 q.2.2,post:=λp q=>Kc b p q.1 q.2.1 q.2.2,ext:=λZ a σ=>(rB a,OF σ 0 (nE b)),sel:=yes}]
def core (s:SS):SS:={s with sp:=0,n0:=false,n1:=false}
section
variable {s t:SS}(c:core t=core s)
include c
theorem GQ:t.d0=s.d0:=(congrArg SS.d0 c:(core t).d0=(core s).d0)
theorem GR:t.d1=s.d1:=(congrArg SS.d1 c:(core t).d1=(core s).d1)
theorem PV:t.f0=s.f0:=(congrArg SS.f0 c:(core t).f0=(core s).f0)
theorem PW:t.f1=s.f1:=(congrArg SS.f1 c:(core t).f1=(core s).f1)
theorem PX:t.tr=s.tr:=(congrArg SS.tr c:(core t).tr=(core s).tr)
theorem PY:t.ms=s.ms:=(congrArg SS.ms c:(core t).ms=(core s).ms)
theorem PZ:t.fl=s.fl:=(congrArg SS.fl c:(core t).fl=(core s).fl)
def Bu.core (h:Bu s):Bu t:=by
 obtain⟨⟨⟨g0,g1,tr,ms⟩,n0,n1,e0,e1,l0,l1⟩,ok,sh⟩:=h;show⟨⟨⟨?_,?_,?_,?_⟩,?_,?_,?_,?_,?_,?_⟩,?_,?_⟩<;>simp only[GQ c,GR c,PV c,PW c,PX c,PY c,PZ c]<;>assumption
def Gr.coreL (h:Gr s u):Gr t u:=by
 obtain⟨h1,d,h3,f,g,i,j,k,l,a,b⟩:=h;show⟨?_,?_,?_,?_,?_,?_,?_,?_,?_,?_,?_⟩<;>simp only[GQ c,GR c,PV c,PW c,PX c,PY c]<;>assumption
def Gr.coreR (h:Gr u s):Gr u t:=by
 obtain⟨h1,d,h3,f,g,i,j,k,l,a,b⟩:=h;show⟨?_,?_,?_,?_,?_,?_,?_,?_,?_,?_,?_⟩<;>simp only[GQ c,GR c,PV c,PW c,PX c,PY c]<;>assumption
end
theorem HC s:core (IU s)=core s:=rfl
theorem Zk.core {K}{s s' t j}(h:Zk K s s')(c:core t=core s)(c':core j=core s'):Zk K t j:=
 ⟨(h.gr.coreL c).coreR c',by rw[PZ c,PZ c'];show h.fl,λa b d hb k=>by
   rw[GQ c] at d;rw[GR c] at hb;rw[GQ c',GR c'];show h.sol a b d hb k⟩
theorem eS.core {K}{s s' t j}(h:eS K s s')(c:core t=core s)(c':core j=core s'):eS K t j:=
 ⟨(h.gr.coreL c).coreR c',λa b d hb k=>by rw[GQ c] at d;rw[GR c] at hb;show h.no a b d hb k⟩
theorem Zk.refl K s:Zk K s s:=⟨.refl _,rfl,λa b c hb Z=>⟨c,hb⟩⟩
theorem Zk.trans {K}{s s' s''}(a:Zk K s s')(b:Zk K s' s''):Zk K s s'':=⟨a.gr.trans b.gr,b.fl.trans a.fl,λx y hx c k=>by
 obtain⟨p,q⟩:=a.sol x y hx c k;show b.sol x y p q k⟩
def sf {b}{v}{x y}(h:CO b v x y=true) j (c:j=true->b=true):eO j v x y=true:=by
 unfold CO at h;have h1:=aL h;have a:=aR h;cases j with
 |false=>show h1
 |true=>rw[c rfl] at a;show a
def ky {b}{v}{x y}(h0:eO false v x y=true)(h1:b=true->eO true v x y=true):CO b v x y=true:=by
 unfold CO;rw[h0];cases b with
 |false=>rfl
 |true=>rw[h1 rfl];rfl
def OG {b}{s s₀}{x j}{v v₀}{st}(h:Fc b s x v)(c:core s₀=core s)(m0:s₀.n0=false)(m1:s₀.n1=false)(hx:j=MU b (-1) s {x with due:=true})(hv:v₀=v)(a:st=!s₀.fl):Ho b s₀ v₀ s₀ j v₀ st:=by
 have hp:=h.pre.core c;have a:st:=by rw[a,hp.ok];rfl
 subst hv;have w0:j.w0:=by
  rw[hx];change ((true&&(s.n0||s.n1))||x.w0)
  rcases h.news with n|n
  · rw[n];rfl
  · rw[n.1];simp
 have w1:b->j.w1:=λhb=>by
  rw[hx];change ((b&&(true&&(s.n0||s.n1)))||x.w1)
  rcases h.news with n|n
  · rw[n,hb];rfl
  · rw[n.2 hb];simp
 show⟨rfl,h.vs,m0,m1,⟨λhb=>?_,λhb=>?_⟩,λZ=>⟨hp,.refl _ _,λz=>Aj w0 z,λhb z=>Aj (w1 hb) z⟩,λz=>Aj a z⟩
 · rw[hx];change ((b&&(true&&(s.n0||s.n1)))||x.w1)=false;rw[hb,h.one.w hb];rfl
 · rw[hx];show h.one.u hb
theorem Rs {b}{s s₀}{x}{v v₀ j}{st}(I:Ho b s₀ v₀ s x v st)(a:j=v)(h:st):Rr b s x j:=a▸⟨(I.yes h).1,I.m0,I.m1,I.vs,I.one.w⟩
def Wq {x:ES}(h:decide (CZ x.w0+CZ x.w1>0)):x.w0=true∨x.w1:=by
 cases q:x.w0 with
 |true=>show .inl rfl
 |false=>cases q':x.w1 with|true=>show .inr rfl|false=>rw[q,q'] at h;show absurd h ∅
def Kx {x:ES}(h:decide (CZ x.w0+CZ x.w1>0)=false):x.w0=false/\x.w1=false:=by
 cases q:x.w0 with
 |true=>cases q':x.w1<;>(rw[q,q'] at h;show absurd h ∅)
 |false=>cases q':x.w1 with|true=>rw[q,q'] at h;show absurd h ∅|false=>show⟨rfl,rfl⟩
section
variable {b:Bool}{s s₀ s':SS}{x x':ES}{v v₀ v':VS}{st r:Bool}
def Rt (I:Ho b s₀ v₀ s x v st)(h:st)(A:Fb b s x v' r s' x')(hv:v'=v):Ho b s₀ v₀ s' x' v' r:=by
 obtain⟨hp,i,r0,o⟩:=I.yes h;obtain⟨j,s₁,t,u,P,rfl,rfl⟩:=A.is;subst hv;have l:j->b:=λn=>by
  cases q:x.w0 with
  |true=>rw[t q] at n;ext n
  |false=>show(u q).2
 have g:Gr s s₁:=P.gr.coreL (show core s=core {s with sp:=CZ j} from rfl);have y:One b (MU b (CZ j) s₁ (eP j x)):=by
  show⟨λhb=>?_,λhb=>?_⟩
  · change ((b&&(decide (CZ j≠1)&&(s₁.n0||s₁.n1)))||(eP j x).w1)=false;rw[hb];cases j with|false=>show I.one.w hb|true=>rfl
  · cases j with|false=>show I.one.u hb|true=>rfl
 have sol:∀a c,mem s.d0 a->mem s.d1 c->CO b v' a c->r/\mem s₁.d0 a/\mem s₁.d1 c:=λa c f hc k=>P.sol a c f hc (sf k j l);show⟨I.ve,I.vs,rfl,rfl,y,λhr=>?_,λhr=>?_⟩
 · have fl:s₁.fl=s.fl:=P.fl hr;have d:Bu s₁:=hp.of g fl;have sh:Zk (CO b v') s (IU s₁):=⟨g.coreR (HC s₁),fl,λa c f hc k=>(sol a c f hc k).2⟩
   have same:(s₁.n0||s₁.n1)=false->s₁.d0=s.d0/\s₁.d1=s.d1:=λhn=>by
    obtain⟨n0,n1⟩:=Bool.or_eq_false_iff.mp hn;have e0:s₁.n0=(s.n0||decide (s₁.d0≠s.d0)):=P.nw.n0;have e1:s₁.n1=(s.n1||decide (s₁.d1≠s.d1)):=P.nw.n1;rw[n0,I.m0,Bool.false_or] at e0;rw[n1,I.m1,Bool.false_or] at e1;show⟨Decidable.of_not_not (NT e0.symm),Decidable.of_not_not (NT e1.symm)⟩
   show⟨d.core (HC s₁),i.trans sh,λw=>?_,λhb w=>?_⟩
   · cases j with
     |false=>show P.fin hr
     |true=>
      have w:((true&&(s₁.n0||s₁.n1))||x.w0)=false:=w;rw[mu] at w;obtain⟨m,w0⟩:=Bool.or_eq_false_iff.mp w;obtain⟨d0,d1⟩:=same m;change AT s₁.d0->AT s₁.d1->eO false v' (Ac s₁.d0) (Ac s₁.d1);rw[d0,d1];show r0 w0
   · cases j with
     |true=>show P.fin hr
     |false=>
      have w:((b&&(true&&(s₁.n0||s₁.n1)))||x.w1)=false:=w;rw[hb,mu,mu] at w;obtain⟨m,w1⟩:=Bool.or_eq_false_iff.mp w;obtain⟨d0,d1⟩:=same m;change AT s₁.d0->AT s₁.d1->eO true v' (Ac s₁.d0) (Ac s₁.d1);rw[d0,d1];show o hb w1
 · show⟨i.gr.trans (g.coreR (HC s₁)),λa c f hc k=>?_⟩;obtain⟨p,q⟩:=i.sol a c f hc (I.ve▸k);show Aj (sol a c p q (I.ve▸k)).1 hr
def Ru (I:Ho b s₀ v₀ s x v st)(c:x.w0=true∨x.w1)(i:v'=v)(A:Fb b s x v' r s' x'):3 * (AM s'.d0+AM s'.d1)+(cnt x'.w0+cnt x'.w1)<3 * (AM s.d0+AM s.d1)+(cnt x.w0+cnt x.w1):=by
 obtain⟨j,s₁,d,a,P,rfl,rfl⟩:=A.is;have c0:s₁.d0=s.d0∨AM s₁.d0<AM s.d0:=P.gr.c0;have c1:s₁.d1=s.d1∨AM s₁.d1<AM s.d1:=P.gr.c1;have n0:s₁.n0=(s.n0||decide (s₁.d0≠s.d0)):=P.nw.n0;have n1:s₁.n1=(s.n1||decide (s₁.d1≠s.d1)):=P.nw.n1;rw[I.m0,Bool.false_or] at n0;rw[I.m1,Bool.false_or] at n1;have KC:∀z:Bool,cnt z<=1:=λz=>by cases z<;>decide
 have big:s₁.d0=s.d0/\s₁.d1=s.d1∨3 * (AM s₁.d0+AM s₁.d1)+3<=3 * (AM s.d0+AM s.d1):=by
  rcases c0 with c0|c0<;>rcases c1 with c1|c1
  · show .inl ⟨c0,c1⟩
  · rw[c0];show .inr (Zt 3 (Nat.add_lt_add_left c1 _))
  · rw[c1];show .inr (Zt 3 (Nat.add_lt_add_right c0 _))
  · show .inr (Zt 3 (Nat.add_lt_add c0 c1))
 have f:x.w0=true∨x.w0=false:=by cases x.w0<;>simp
 have g:(j=false/\x.w0)∨(j/\x.w0=false/\b):=by
  rcases f with q|q
  · show .inl ⟨d q,q⟩
  · show .inr ⟨(a q).1,q,(a q).2⟩
 rcases g with ⟨rfl,q⟩|⟨rfl,q,hb⟩
 · change 3 * (AM s₁.d0+AM s₁.d1)+(cnt ((false&&(s₁.n0||s₁.n1))||false)+cnt ((b&&(true&&(s₁.n0||s₁.n1)))||x.w1))<_;rw[q]
   rcases big with ⟨d0,d1⟩|big
   · rw[d0] at n0;rw[d1] at n1;rw[n0,n1,d0,d1];have:(b&&(true&&(decide (s.d0≠s.d0)||decide (s.d1≠s.d1))))=false:=by simp
     rw[this];change _+(0+cnt x.w1)<_+(1+cnt x.w1)
     show Nat.add_lt_add_left (Nat.add_lt_add_right Nat.one_pos _) _
   · show eR big (EX (Nat.le_of_eq (Nat.zero_add _)) (KC _))
 · change 3 * (AM s₁.d0+AM s₁.d1)+(cnt ((true&&(s₁.n0||s₁.n1))||x.w0)+cnt ((b&&(false&&(s₁.n0||s₁.n1)))||false))<_;have w1:x.w1:=by
    rcases c with h|h
    · show Aj h q
    · show h
   rw[w1]
   rcases big with ⟨d0,d1⟩|big
   · rw[d0] at n0;rw[d1] at n1;rw[n0,n1,d0,d1];have:(true&&(decide (s.d0≠s.d0)||decide (s.d1≠s.d1)))=false:=by simp
     rw[this,hb];change _+(cnt x.w0+0)<_+(cnt x.w0+1)
     show Nat.add_lt_add_left (Nat.lt_succ_self _) _
   · rw[show cnt ((b&&(false&&(s₁.n0||s₁.n1)))||false)=0 by cases b<;>rfl];show eR big (KC _)
def Pa (I:Ho b s₀ v₀ s x v st)(h:st)(w:x.w0=false/\x.w1=false)(c:core s₀=core S)(hv:v₀=V)(c':core s'=core s)(m0:s'.n0=s.n0)(m1:s'.n1=s.n1)(sp:s'.sp=-1)(one:One b x'):CL b S V s' x':=by
 obtain⟨hp,a,r0,d⟩:=I.yes h;have e:v=V:=I.ve.trans hv;subst hv;subst e;show⟨hp.core c',a.core c.symm c',λf0 f1=>?_,sp,m0.trans I.m0,m1.trans I.m1,one⟩
 · rw[GQ c'] at f0 ⊢;rw[GR c'] at f1 ⊢;show ky (r0 w.1 f0 f1) λhb=>d hb w.2 f0 f1
def eU (I:Ho b s₀ v₀ s x v st)(h:st=false)(c:core s₀=core S)(hv:v₀=V)(c':core s'=core s)(m0:s'.n0=s.n0)(m1:s'.n1=s.n1)(sp:s'.sp=-1)(one:One b x'):CM b S V s' x':=by
 have e:v=V:=I.ve.trans hv;subst hv;subst e;show⟨(I.no h).core c.symm c',sp,m0.trans I.m0,m1.trans I.m1,one⟩
theorem One.same (h:One b x)(w:y.w1=x.w1)(u:y.u1=x.u1):One b y:=⟨λhb=>w.trans (h.w hb),λhb=>u.trans (h.u hb)⟩
theorem One.un (h:One b x)(w:y.w1=x.u1)(u:y.u1=x.u1):One b y:=⟨λhb=>w.trans (h.u hb),λhb=>u.trans (h.u hb)⟩
end
def OH {l:List El}{d:Int}(hd:d=(l.length:Int)-1)(hn:l≠[]):BH l none (some d)=l.dropLast:=by
 subst hd;have hl:0<l.length:=nD.mpr hn;unfold BH;have e1:PySem.W.kms_lo none l.length=0:=rfl;have a:PySem.W.kms_hi (some ((l.length:Int)-1)) l.length=l.length-1:=by
  unfold PySem.W.kms_hi;dsimp only;rw[if_neg (show ¬((l.length:Int)-1<0) from Int.not_lt.mpr (Int.sub_nonneg_of_le (Int.ofNat_le.mpr hl)))];show(congrArg (min · l.length) (Int.toNat_sub l.length 1)).trans (Nat.min_eq_left (Nat.sub_le ..))
 rw[e1,a,List.drop_zero,Nat.sub_zero,List.dropLast_eq_take]
def C4 (s:SS):Nat:=(s.ms.getLastD BY).v.toNat
def EI (s:SS):SS:={s with d0:=(AAO (s.tr.drop (C4 s)) (s.d0,s.d1)).1,d1:=(AAO (s.tr.drop (C4 s)) (s.d0,s.d1)).2,tr:=s.tr.take (C4 s),ms:=s.ms.dropLast,fl:=false,n0:=false,n1:=false}
structure HD (s:SS):Prop where
 full:Af s
 ne:s.ms≠[]
 lo:0<=(s.ms.getLastD BY).v
 le:C4 s<=s.tr.length
def Rv:Spec where
 P:=Int×SS
 d:=(0,IT)
 args:=λp=>[.ref 0,.d (.int p.1)]
 cells:=λp=>Ju p.2 0 5 6
 pre:=λp=>p.1=1/\HD p.2
 ext:=λl σ=>(rI (Ae l 1),GP σ 0 5 6)
 outs:=[{Q:=SS,d:=IT,res:=λZ Z=>.d nn,cells:=λZ q=>Ju q 0 7 8++[some (.tl .int q.ms),some (.iset q.n0 q.n1)],post:=λp q=>q=EI p.2,ext:=λZ Z σ=>GP σ 0 7 8,sel:=yes}]
structure H2 (m:Nat) (tr:List El) (d:Cf×Cf) (tr':List El) (d':Cf×Cf):Prop where
 pre:tr'=tr.take tr'.length
 lo:m<=tr'.length
 le:tr'.length<=tr.length
 eq:AAO (tr'.drop m) d'=AAO (tr.drop m) d
structure EC (s₀:SS) (m₀:Int) (s:SS) (m:Int):Prop where
 und:H2 m.toNat s₀.tr (s₀.d0,s₀.d1) s.tr (s.d0,s.d1)
 me:m=m₀
 lo:0<=m
 same:s.f0=s₀.f0/\s.f1=s₀.f1/\s.ms=s₀.ms/\s.sp=s₀.sp
 sh:s.tr.length<=900
def C9:Fm where
 P:=SS×Int×Int
 d:=(IT,0,0)
 n:=9
 cells:=λp=>Ju p.1 0 8 6++[some (.ns [("self",.ref 0),("n",.d (.int p.2.1)),("mark",.d (.int p.2.2)),("entry",.d .any)]),some (.tl .int p.1.ms)]
 inv:=λp₀ p=>EC p₀.1 p₀.2.2 p.1 p.2.2
 meas:=λp=>p.1.tr.length
 ext:=λσ=>(GP σ 0 8 6,rI (rF (rO σ 7) "n"),rI (rF (rO σ 7) "mark"))
def o4 (line:Nat):Option Hk:=Bool.rec none (some (.peel C9)) (Nat.beq line 153)
def Z8p:=Hx eQ [] o4 Bs De
theorem H2.refl {m}{tr}{d}(h:m<=tr.length):H2 m tr d tr d:=⟨by rw[List.take_length],h,QJ _,rfl⟩
def H2.trans {m}{tr u j}{d H C}(a:H2 m tr d u H)(b:H2 m u H j C):H2 m tr d j C where
 pre:=by
  have h1:=a.pre;have c:=b.pre;rw[h1,List.take_take,Nat.min_eq_left b.le] at c;show c
 lo:=b.lo
 le:=EX b.le a.le
 eq:=b.eq.trans a.eq
def MW {tr}(h:tr≠[]):tr.dropLast++[tr.getLastD BY]=tr:=by
 have e:tr.getLastD BY=tr.getLast h:=by
  simp[zA,uj h]
 show(e)▸?_;show List.dropLast_concat_getLast h
def H2.step {m:Nat}{tr:List El}{d:Cf×Cf}(h:m<tr.length):H2 m tr d tr.dropLast (kn (tr.getLastD BY) d):=by
 have hn:tr≠[]:=λe=>by rw[e] at h;show absurd h (Nat.not_lt_zero _)
 have hl:tr.dropLast.length=tr.length-1:=uO;have hp:m<=tr.dropLast.length:=hl▸Nat.le_sub_one_of_lt h;show⟨?_,hp,hl▸Nat.sub_le ..,?_⟩
 · rw[hl,List.dropLast_eq_take]
 · have e:tr.drop m=tr.dropLast.drop m++[tr.getLastD BY]:=by
    have:=congrArg (List.drop m) (MW hn);rw[List.drop_append_of_le_length hp] at this;show this.symm
   rw[e,G9];rfl
def Wr {n:Nat}{m:Int}(hm:0<=m)(h:decide ((n:Int)>m)):m.toNat<n:=by
 show(Int.toNat_lt hm).mpr (AAL h)
def H2.s0 {m:Int}{tr:List El}{a b:Cf}(hm:0<=m)(h:decide ((tr.length:Int)>m))(hx:(tr.getLastD BY).x=false):H2 m.toNat tr (a,b) tr.dropLast ((tr.getLastD BY).d,b):=by
 have:=H2.step (d:=(a,b)) (Wr hm h);unfold kn at this;rw[hx] at this;show this
def H2.s1 {m:Int}{tr:List El}{a b:Cf}(hm:0<=m)(h:decide ((tr.length:Int)>m))(hx:(tr.getLastD BY).x):H2 m.toNat tr (a,b) tr.dropLast (a,(tr.getLastD BY).d):=by
 have:=H2.step (d:=(a,b)) (Wr hm h);unfold kn at this;rw[hx] at this;show this
theorem EC.first {s}{m:Int}(hm:0<=m)(h:m.toNat<=s.tr.length)(sh:s.tr.length<=900):EC s m s m:=⟨.refl h,rfl,hm,⟨rfl,rfl,rfl,rfl⟩,sh⟩
theorem EC.next {s₀ s s'}{j m}(I:EC s₀ j s m)(u:H2 m.toNat s.tr (s.d0,s.d1) s'.tr (s'.d0,s'.d1))(f0:s'.f0=s.f0)(f1:s'.f1=s.f1)(ms:s'.ms=s.ms)(sp:s'.sp=s.sp):EC s₀ j s' m:=
 ⟨I.und.trans u,I.me,I.lo,⟨f0.trans I.same.1,f1.trans I.same.2.1,ms.trans I.same.2.2.1,sp.trans I.same.2.2.2⟩,EX u.le I.sh⟩
def Ky {tr:List El}{m:Int}(hm:0<=m)(h:decide ((tr.length:Int)>m)):tr.dropLast.length<tr.length:=by
 have:=Wr hm h;rw[uO];show Nat.sub_lt (Nat.zero_lt_of_lt this) Nat.one_pos
def Uz {tr:List El}{m:Int}(hm:0<=m)(h:decide ((tr.length:Int)>m))(e:tr=[]):False:=by
 have:=Wr hm h;rw[e] at this;show absurd this (Nat.not_lt_zero _)
def Bq {l:List El}{x:Int}(h:x=1)(hn:l≠[])(e:decide ((l.length:Int)-x=-1)){P:Prop}:P:=by
 have:=nD.mpr hn;have e:=AAL e;lia
section
variable {S:SS}(hp:HD S)
include hp
def eV {n:Int}(hn:n=1):(S.ms.getD ((S.ms.length:Int)-n).toNat BY).v=(S.ms.getLastD BY).v:=by
 subst hn;have:((S.ms.length:Int)-1).toNat=S.ms.length-1:=Int.toNat_sub _ 1;rw[this,NS,F7 (d:=BY) hp.ne];rfl
theorem eW {n:Int}(hn:n=1):BH S.ms none (some ((S.ms.length:Int)-n))=S.ms.dropLast:=OH (by rw[hn]) hp.ne
def Ws {s₀ s}{j m}(h0:s₀.f0=S.f0/\s₀.f1=S.f1/\s₀.sp=S.sp/\s₀.ms=S.ms.dropLast)(hm:j=(S.ms.getLastD BY).v)(u:H2 (C4 S) S.tr (S.d0,S.d1) s₀.tr (s₀.d0,s₀.d1))(I:EC s₀ j s m)(hx:decide ((s.tr.length:Int)>m)=false):
 CS s.sp (decide (s.f0=[])||(decide (s.f1=[])||false)) s.d0 s.d1 s.f0 s.f1 s.tr s.ms false false=EI S:=by
 have hx:=NT hx;have a:m.toNat=C4 S:=by rw[I.me,hm];rfl
 have U:=u.trans (a▸I.und);have hl:s.tr.length=C4 S:=by
  show Nat.le_antisymm (a▸(Int.le_toNat I.lo).mpr (Int.not_lt.mp hx)) U.lo
 obtain⟨a1,b,c,d⟩:=I.same;obtain⟨b1,f,g,h⟩:=h0;have hd:(s.d0,s.d1)=AAO (S.tr.drop (C4 S)) (S.d0,S.d1):=by
  have:=U.eq;rw[<-hl,List.drop_length] at this;rw[hl] at this;show this
 have i:s.tr=S.tr.take (C4 S):=by
  have:=U.pre;rw[hl] at this;show this
 have f0:s.f0=S.f0:=a1.trans b1;have f1:s.f1=S.f1:=b.trans f;unfold EI;rw[<-hd,<-i,f0,f1,c,h,d,g];have k:decide (S.f0=[])=false:=Zr hp.full.e0;have l:decide (S.f1=[])=false:=Zr hp.full.e1;rw[k,l];rfl
omit hp in
theorem Rw {s₀ s}{j m}(I:EC s₀ j s m)(hp:HD S)(h0:s₀.f0=S.f0/\s₀.f1=S.f1/\s₀.sp=S.sp/\s₀.ms=S.ms.dropLast)(hm:j=(S.ms.getLastD BY).v)(u:H2 (C4 S) S.tr (S.d0,S.d1) s₀.tr (s₀.d0,s₀.d1))(hx:decide ((s.tr.length:Int)>m)=false):
 CS s.sp (decide (s.f0=[])||(decide (s.f1=[])||false)) s.d0 s.d1 s.f0 s.f1 s.tr s.ms false false=EI S:=Ws hp h0 hm u I hx
end
structure PS where
 gn:Nat
 gv:Int
 ov:Bool
 an:Bool
 nd:Int
 fs:Int
 rs:Int
 sc:Int
 pa:List El
 rf:List El
abbrev Ef:=PS.mk
def eX:PS:=⟨0,0,false,false,0,0,0,0,[],[]⟩
abbrev QS:=PS×AS
def QN:QS:=(eX,uZ)
def gT (x:Int)(o:Str)(v:Int):Dt:=.tup [.int x,.str o,.int v]
def glD (n:Nat)(v:Int):Dt:=.sel [nn,gT 0 "<=" v,gT 1 "<=" v,gT 0 ">=" v,gT 1 ">=" v] n
def xp (x:Int)(o:Str):Nat:=Bool.rec (Bool.rec 3 4 (decide (x=1))) (Bool.rec 1 2 (decide (x=1))) (o==("<=":Str))
def kz (t:Dt)(i:Nat):AV:=Ae (DH (.d t)) i
def o5 (a:AV):Nat×Int:=Option.rec (0,0) (λt=>Option.rec (Option.rec (0,0) (λZ=>(xp (rI (kz t 0)) (rS (kz t 1)),rI (kz t 2))) (JS t)) (λx=>(x.2,rI (kz ((x.1[1]?).getD .any) 2))) (WZ t)) (Ff a)
def Ya:AO:=.ns [("some",.d (.tup [.int 0,.int 1])),("order",.d (.str "input_order")),("choice",.d (.str "min")),("degrees",.d .any)]
def eY (bg:Bool)(q:PS)(pt b a:Nat):AO:=.ns [("engine",.ref 8),("store",.ref 17),("brancher",.ref 4),("base",.d (.int 0)),("rest",.ref a),("path",.ref pt),("refuted",.ref b),("learner",.d nn),("goal",.d (glD q.gn q.gv)),
 ("is_begun",ba bg),("is_over",ba q.ov),("is_answered",ba q.an),("fail_limit",.d (.int 0)),("restart_unit",.d (.int 0)),("nodes",.d (.int q.nd)),("fails",.d (.int q.fs)),("restarts",.d (.int q.rs)),("since",.d (.int q.sc))]
def xq (b:Bool)(p c d mk nw:Nat)(a:AS):AC:=sd b a.2.1 p c d++(Ju a.1 (p+9) mk nw++eJ b a.2.2 (p+16))
def Pb (b:Bool)(q:QS)(pt a c d mk nw:Nat):AC:=[some (.inst Ku 1),some (eY true q.1 pt a 6),cellAt pt 2 (.tl .pth q.1.pa),cellAt a 3 (.tl .rft q.1.rf),some (.inst Bz 5),some Ya,some (.inst Bz 7),some Ya]++xq b 8 c d mk nw q.2
def D2 (b:Bool)(q:QS):AC:=Pb b q 2 3 14 16 22 23
def NL (q:QS):AC:=[some (.tl .pth q.1.pa),some (.tl .rft q.1.rf),some (.iset q.2.2.1.w0 q.2.2.1.w1),some (.iset q.2.2.1.b0 q.2.2.1.b1),some (.tl .int q.2.1.ms),some (.iset q.2.1.n0 q.2.1.n1)]
def GS (b:Bool)(n:Nat)(q:QS):AC:=Pb b q n (n+1) (n+2) (n+3) (n+4) (n+5)
def nS (b:Bool):Nat:=match b with|false=>27|true=>30
def sg (σ:AC)(pt a:Nat):PS where
 gn:=(o5 (rF (rO σ 1) "goal")).1
 gv:=(o5 (rF (rO σ 1) "goal")).2
 ov:=rB (rF (rO σ 1) "is_over")
 an:=rB (rF (rO σ 1) "is_answered")
 nd:=rI (rF (rO σ 1) "nodes")
 fs:=rI (rF (rO σ 1) "fails")
 rs:=rI (rF (rO σ 1) "restarts")
 sc:=rI (rF (rO σ 1) "since")
 pa:=Ce .pth (rO σ pt)
 rf:=Ce .rft (rO σ a)
def OI (σ:AC)(p a b mk nw:Nat):AS:=(GP σ (p+9) mk nw,rES σ p a b,rVS σ (p+16))
def AAP (σ:AC):QS:=(sg σ 2 3,OI σ 8 14 16 22 23)
def C5 (σ:AC)(n:Nat):QS:=(sg σ n (n+1),OI σ 8 (n+2) (n+3) (n+4) (n+5))
def gX (n:Nat):Bool:=match n with|2=>true|4=>true|_=>false
def gO (n:Nat):Op:=match n with|1=>.le|2=>.le|_=>.ge
def Fq (n:Nat)(v:Int)(s:SS):Bool×SS:=match n with|0=>(true,s)|n+1=>((AJ (gX (n+1)) (cut (gO (n+1)) (s.dom (gX (n+1))) v) {s with sp:=-2}).1,{(AJ (gX (n+1)) (cut (gO (n+1)) (s.dom (gX (n+1))) v) {s with sp:=-2}).2 with sp:=-1})
def xr {n}{v:Int}{s}(h:n=0):(true,s)=Fq n v s:=by subst h;rfl
def Wt {n m}{v:Int}{s}{z}(h:n=m+1)(e:z=AJ (gX (m+1)) (cut (gO (m+1)) (s.dom (gX (m+1))) v) {s with sp:=-2}):(z.1,{z.2 with sp:=-1})=Fq n v s:=by subst h;subst e;rfl
def Rx {q}{n}{v}(h:q.gn=n)(h':q.gv=v):Ef n v q.ov q.an q.nd q.fs q.rs q.sc q.pa q.rf=q:=by subst h;subst h';rfl
def bL (l:List Lf):List Lf:=.s "min"::.s "input_order"::.i 1::.i 0::l
structure U0 (q:PS):Prop where
 lt:q.gn<5
 z:q.gn=0->q.gv=0
def Gl (b:Bool):Spec where
 P:=QS
 d:=QN
 args:=λZ=>[.ref 0]
 cells:=D2 b
 pre:=λp=>(Af p.2.1/\p.2.1.tr.length<890)/\U0 p.1
 ext:=λZ σ=>AAP σ
 outs:=[{Q:=Bool×PS×SS,d:=(false,eX,IT),res:=λZ q=>ba q.1,cells:=λp q=>D2 b (q.2.1,q.2.2,p.2.2),post:=λp q=>q.2.1=p.1/\(q.1,q.2.2)=Fq p.1.gn p.1.gv p.2.1,ext:=λZ a σ=>(rB a,sg σ 2 3,GP σ 17 22 23),sel:=yes}]
def xt:List (Addr×Nat×Hl):=(KP,91,MM Rv)::(DS,101,BZ E5 Wp)::eQ
structure Bx where
 d0:Cf
 d1:Cf
 tr:List El
 ms:List El
def Ab (s:SS):Bx:=⟨s.d0,s.d1,s.tr,s.ms⟩
def Bx.dom (x:Bx)(i:Bool):Cf:=match i with|false=>x.d0|true=>x.d1
def markB (x:Bx):Nat:=(x.ms.getLastD BY).v.toNat
def C6 (x:Bx):Bx:=⟨(AAO (x.tr.drop (markB x)) (x.d0,x.d1)).1,(AAO (x.tr.drop (markB x)) (x.d0,x.d1)).2,x.tr.take (markB x),x.ms.dropLast⟩
structure Sd (x:Bx):Prop where
 g0:Aq x.d0
 g1:Aq x.d1
 n0:x.d0≠[]
 n1:x.d1≠[]
 sh:x.tr.length+(AM x.d0+AM x.d1)<=100
 ms:x.ms.length<=x.tr.length
def Sd.g (h:Sd x) i:Aq (x.dom i):=by cases i;show h.g0;show h.g1
structure eZ (x:Bx):Prop where
 ne:x.ms≠[]
 lo:0<=(x.ms.getLastD BY).v
 le:markB x<=x.tr.length
structure Pc (e:El) (x:Bx):Prop where
 m:mem (x.dom e.x) e.v
 lt:e.v<Ax (x.dom e.x)
def Ke (r:List El)(x:Bx):Prop:=match r with|[]=>x.ms=[]|e::r=>eZ x/\Sd (C6 x)/\Pc e (C6 x)/\Ke r (C6 x)
abbrev jK:=Cf×Cf
def Bv (e:El)(x:Bx):jK:=match e.x with|false=>(cut .ge x.d0 (e.v+1),x.d1)|true=>(x.d0,cut .ge x.d1 (e.v+1))
def Pd (r:List El)(x:Bx):List jK:=match r with|[]=>[]|e::r=>Bv e (C6 x)::Pd r (C6 x)
def U4 (a:Int):List (Int×Int):=[(a,0),(a,1),(a,2),(a,3)]
def I4:List (Int×Int):=U4 0++(U4 1++(U4 2++U4 3))
def I5 (d:jK)(p:Int×Int):Bool:=mem d.1 p.1&&mem d.2 p.2
def E6 (K:Int->Int->Bool)(d:jK):List (Int×Int):=I4.filter λp=>I5 d p&&K p.1 p.2
def Fd (K:Int->Int->Bool)(l:List jK):List (Int×Int):=match l with|[]=>[]|d::l=>E6 K d++Fd K l
def B6 (d:jK):Nat:=AM d.1 * AM d.2
def phi (l:List jK):Nat:=match l with|[]=>0|d::l=>(3 * B6 d-1)+phi l
structure Zl (s:SS):Prop where
 e0:s.f0≠[]
 e1:s.f1≠[]
 l0:s.f0.length<=2
 l1:s.f1.length<=2
def gK (n:Nat)(v:Int)(a b:Int):Bool:=match n with|0=>true|1=>decide (a<=v)|2=>decide (b<=v)|3=>decide (a≥v)|_=>decide (b≥v)
def KG (K:Int->Int->Bool)(q:PS)(a b:Int):Bool:=K a b&&gK q.gn q.gv a b
abbrev ag (pa:List El)(s:SS):List jK:=Pd pa.reverse (Ab s)
structure Kf (s:SS) (pa:List El):Prop where
 f:Zl s
 b:Sd (Ab s)
 k:Ke pa.reverse (Ab s)
structure HE (p:PS) (s:SS):Prop where
 g:U0 p
 st:Kf s p.pa
 ph:p.rf.length+phi (ag p.pa s)<=900
def Jv (q:PS)(s:SS):=∀a b,mem s.d0 a->mem s.d1 b->gK q.gn q.gv a b
structure Yb (p:PS) (s:SS) (q:PS) (s':SS):Prop where
 pre:Bu s'
 k:Ke q.pa.reverse (Ab s')
 ms:s'.ms.length<=s'.tr.length
 news:(s'.n0||s'.n1)
 g:Jv q s'
 sol:∀K,E6 (KG K q) (s'.d0,s'.d1)++Fd (KG K q) (ag q.pa s')=Fd (KG K p) (ag p.pa s)
 ph:q.rf.length+(3 * B6 (s'.d0,s'.d1)-2)+phi (ag q.pa s')<=p.rf.length+phi (ag p.pa s)
 me:(3 * B6 (s'.d0,s'.d1)-2)+phi (ag q.pa s')<phi (ag p.pa s)
structure E7 (p:PS) (s:SS) (r:Bool) (q:PS) (s':SS):Prop where
 same:q={p with pa:=q.pa,rf:=q.rf}
 yes:r->Yb p s q s'
 no:r=false->∀K,Fd (KG K p) (ag p.pa s)=[]
def lA (σ:AC)(a:AV):AO:=Option.rec (.cell none) (λi=>Option.rec (.cell none) (λx=>rO σ x.2) (IL (rO σ i))) (Es a)
def U1 (l:List AV)(σ:AC):Bool:=Wp [rF (lA σ (Ae l 0)) "engine"] σ
structure I6 (d:Int) (p:PS) (s:SS):Prop where
 d:d=(p.pa.length:Int)-1
 pop:HD s
 full:Af (EI s)
 tr:(EI s).tr.length<890
 g:U0 p
 pa:p.pa.length<=900
 pa0:p.pa≠[]
 rf:p.rf.length<=900
structure Dl (p:PS) (s:SS) (r:Bool) (q:PS) (s':SS):Prop where
 same:q={p with pa:=p.pa.dropLast,rf:=q.rf}
 rf:q.rf.length<=p.rf.length
 aim:(r,s')=Fq p.gn p.gv (EI s)
def IW (b:Bool):Spec where
 P:=Int×QS
 d:=(0,QN)
 args:=λp=>[.ref 0,.d (.int p.1)]
 cells:=λp=>D2 b p.2
 pre:=λp=>I6 p.1 p.2.1 p.2.2.1
 ext:=λl σ=>(rI (Ae l 1),AAP σ)
 outs:=[{Q:=Bool×PS×SS,d:=(false,eX,IT),res:=λZ q=>ba q.1,cells:=λp q=>GS b (nS b) (q.2.1,q.2.2,p.2.2.2)++NL (q.2.1,q.2.2,p.2.2.2),post:=λp q=>Dl p.2.1 p.2.2.1 q.1 q.2.1 q.2.2,ext:=λZ a σ=>(rB a,(C5 σ (nS b)).1,(C5 σ (nS b)).2.1),sel:=yes}]
def o6 (_:AC):Bool:=false
def FH (σ:AC)(i:Nat)(x:Str):Bool:=Option.rec false (λfs=>(fs.lookup x).isSome) (Xp (rO σ i))
def xu (w:Bool):List (Str×AV):=match w with|false=>[]|true=>[("one",.d .any)]
def xv (σ:AC)(i:Nat):AV:=Option.rec (.d .any) (λv=>v.getD (.d .any)) (JY (rO σ i))
def rIt (σ:AC)(i:Nat):Nat:=Option.rec 0 (λx=>x.2) (HO (rO σ i))
abbrev RL:=(QS×Int)×Nat×List El
structure o7 (a a₀:AS):Prop where
 es:a.2.1=a₀.2.1
 k0:a.2.2.k0=a₀.2.2.k0
 c0:a.2.2.c0=a₀.2.2.c0
 k1:a.2.2.k1=a₀.2.2.k1
 c1:a.2.2.c1=a₀.2.2.c1
theorem o7.refl a:o7 a a:=⟨rfl,rfl,rfl,rfl,rfl⟩
structure Hp (p₀ p:RL):Prop where
 ps:p.1.1.1=p₀.1.1.1
 ss:p.1.1.2.1=p₀.1.1.2.1
 ve:o7 p.1.1.2 p₀.1.1.2
 d:p.1.2=p₀.1.2
 le:p.2.2.length<=p.2.1
 lt:p.2.1<=p.1.1.1.rf.length
def Pe (b:Bool):Hw where
 P:=RL
 d:=((QN,0),0,[])
 n:=nS b+8
 cells:=λw p=>Pb b p.1.1 (nS b+4) 3 14 16 (nS b+2) (nS b+3)++[some (.ns [("self",.ref 0)]),some (.cell (some (.d (.int p.1.2)))),some (.tl .int p.1.1.2.1.ms),some (.iset p.1.1.2.1.n0 p.1.1.2.1.n1),some (.tl .pth p.1.1.1.pa),some (.liter 3 p.2.1),some (.tl .rft p.2.2),some (.ns (xu w))]
 inv:=Hp
 meas:=λp=>p.1.1.1.rf.length-p.2.1
 ext:=λZ σ=>(((sg σ (nS b+4) 3,OI σ 8 14 16 (nS b+2) (nS b+3)),rI (xv σ (nS b+1))),rIt σ (nS b+5),Ce .rft (rO σ (nS b+6)))
 alt:=λσ=>FH σ (nS b+7) "one"
 more:=o6
theorem Hp.turn (I:Hp p₀ p)(h:p.2.1<p.1.1.1.rf.length)(b:acc.length<=p.2.2.length+1)(e1:a.1=p.1.1.2.1)(c:o7 a p₀.1.1.2):Hp p₀ (((p.1.1.1,a),p.1.2),p.2.1.succ,acc):=
 ⟨I.ps,e1.trans I.ss,c,I.d,EX b (my I.le),h⟩
def Wu {d:Int}{p}{s}(hp:I6 d p s){p₀ j}(I:Hp p₀ j)(e:p₀.1.1.1.rf=p.rf):j.2.2.length<=1000:=by
 have h1:=EX I.le I.lt;rw[I.ps,e] at h1;have:=hp.rf;lia
def Ry {d:Int}{p}{s}(hp:I6 d p s):(p.pa.length:Int)-d=1:=by show(hp.d)▸?_;lia
def Fs {d}{p}{s}(hp:I6 d p s){p₀ j}(I:Hp p₀ j) u (e1:u=EI s)(e:p₀.1.1.2.1=u):j.1.1.2.1=EI s:=by rw[I.ss,e,e1]
def eh {d}{p}{s}(hp:I6 d p s){p₀ j}(I:Hp p₀ j)(e:p₀.1.1.1={p with pa:=BH p.pa none (some d)}):U0 {j.1.1.1 with rf:=j.2.2}:=by
 have h:=I.ps.trans e;show⟨by change j.1.1.1.gn<5;show(h)▸?_;show hp.g.lt,by change j.1.1.1.gn=0->j.1.1.1.gv=0;show(h)▸?_;show hp.g.z⟩
def ek {d:Int}{p:PS}{s:SS}(hp:I6 d p s){p₀ a:RL}(I:Hp p₀ a)(b:SS)(e1:b=EI s)(e:p₀.1.1.2.1=b)(f:p₀.1.1.1={p with pa:=BH p.pa none (some d)}){z:Bool×PS×SS}
 (h:z.2.1={a.1.1.1 with rf:=a.2.2}/\(z.1,z.2.2)=Fq a.1.1.1.gn a.1.1.1.gv a.1.1.2.1):Dl p s z.1 z.2.1 z.2.2:=by
 obtain⟨h1,c⟩:=h;have g:=Fs hp I b e1 e;have hq:=I.ps.trans f;rw[g,hq] at c;rw[hq] at h1;show⟨?_,?_,c⟩
 · rw[h1];change _=_;rw[OH hp.d hp.pa0]
 · rw[h1];change a.2.2.length<=p.rf.length;have h3:=EX I.le I.lt;rw[hq] at h3;show h3
def o8 (b:Bool)(line:Nat):Option Hk:=Bool.rec none (some (.two (Pe b))) (Nat.beq line 101429)
def fA:List (Addr×Nat×Hl):=(Cd,61,BZ Gl U1)::xt
def Z10 (b:Bool):=Hx fA [] (o8 b) Bs De
def GU (b:Bool):Spec where
 P:=QS
 d:=QN
 args:=λZ=>[.ref 0]
 cells:=D2 b
 pre:=λp=>HE p.1 p.2.1
 ext:=λZ σ=>AAP σ
 outs:=[{Q:=Bool×PS×SS,d:=(false,eX,IT),res:=λZ q=>ba q.1,cells:=λp q=>GS b (nS b) (q.2.1,q.2.2,p.2.2)++NL (q.2.1,q.2.2,p.2.2),post:=λp q=>E7 p.1 p.2.1 q.1 q.2.1 q.2.2,ext:=λZ a σ=>(rB a,(C5 σ (nS b)).1,(C5 σ (nS b)).2.1),sel:=yes}]
structure Cw (p₀ p:QS):Prop where
 g:U0 p.1
 ve:o7 p.2 p₀.2
 same:p.1={p₀.1 with pa:=p.1.pa,rf:=p.1.rf}
 st:Kf p.2.1 p.1.pa
 ph:p.1.rf.length+phi (ag p.1.pa p.2.1)<=p₀.1.rf.length+phi (ag p₀.1.pa p₀.2.1)
 me:phi (ag p.1.pa p.2.1)<=phi (ag p₀.1.pa p₀.2.1)
 ph0:p₀.1.rf.length+phi (ag p₀.1.pa p₀.2.1)<=900
 sol:∀K,Fd (KG K p.1) (ag p.1.pa p.2.1)=Fd (KG K p₀.1) (ag p₀.1.pa p₀.2.1)
def si (w:Bool):List (Str×AV):=match w with|false=>[("self",.ref 0)]|true=>[("self",.ref 0),("literal",.d .any),("stands",.d .any)]
def MX (b:Bool):Hw where
 P:=QS
 d:=QN
 n:=nS b+1
 cells:=λw q=>GS b (nS b+1) q++(some (.ns (si w))::NL q)
 inv:=Cw
 meas:=λp=>p.1.pa.length
 ext:=λZ σ=>C5 σ (nS b+1)
 alt:=λσ=>FH σ (nS b) "literal"
 more:=o6
def fB (b:Bool)(line:Nat):Option Hk:=Bool.rec none (some (.two (MX b))) (Nat.beq line 1458)
def fC:List (Addr×Nat×Hl):=(Du,111,BZ IW U1)::fA
def Z11 (b:Bool):=Hx fC [] (fB b) Bs De
end
section
theorem o9 {a b φ:Nat}(h:0<b)(k:a<=b):(3 * a-2)+φ<(3 * b-1)+φ:=Nat.add_lt_add_right (jN (Nat.sub_le_sub_right (Zt 3 k) 2) (Nat.sub_lt_sub_left (pd ∅ (Zt 3 h)) ∅)) φ
def pA {a b φ p q:Nat}(l:q<=p+1)(h:0<b)(k:a<=b):q+(3 * a-2)+φ<=p+((3 * b-1)+φ):=by
 rw[Nat.add_assoc];show EX (Nat.add_le_add_right l _) ?_;rw[Nat.add_assoc,Nat.add_comm 1];show uL (o9 h k) p
theorem IX (h:∀a b,(I5 d (a,b)&&K a b)=(I5 j (a,b)&&u a b)):E6 K d=E6 u j:=uP λp Z=>h p.1 p.2
def MY (h:∀a b,I5 d (a,b)->K a b->False):E6 K d=[]:=by
 unfold E6;rw[pi];intro p _ e;have e1:=aL e;have c:=aR e;show h p.1 p.2 e1 c
theorem BS {d}{a b}:I5 d (a,b)=true<->mem d.1 a/\mem d.2 b:=DQ
def MZ {d e}(h:∀v,mem d v->mem e v):AM d<=AM e:=by
 unfold AM;rw[<-List.countP_eq_length_filter,<-List.countP_eq_length_filter];show List.countP_mono_left λx Z=>h x
theorem Ma (h0:∀v,mem d.1 v->mem e.1 v)(h1:∀v,mem d.2 v->mem e.2 v):B6 d<=B6 e:=Nat.mul_le_mul (MZ h0) (MZ h1)
def Eg {d}{v:Int}(h:Aq d)(m:mem d v):0<AM d:=by
 unfold AM;show nD.mpr (List.ne_nil_of_mem (List.mem_filter.mpr ⟨IS h m,m⟩))
def sj (g:Gr s s')(m:eZ (Ab s)):C6 (Ab s')=C6 (Ab s)/\eZ (Ab s'):=by
 obtain⟨t,e1,a⟩:=g.ex;have hm:(Ab s').ms=(Ab s).ms:=g.ms;have hk:markB (Ab s')=markB (Ab s):=by unfold markB;rw[hm]
 have le:markB (Ab s)<=s.tr.length:=m.le;show⟨?_,by show(hm)▸?_;show m.ne,by show(hm)▸?_;show m.lo,?_⟩
 · unfold C6;rw[hk,hm];change Bx.mk (AAO (s'.tr.drop (markB (Ab s))) (s'.d0,s'.d1)).1 (AAO (s'.tr.drop (markB (Ab s))) (s'.d0,s'.d1)).2 (s'.tr.take (markB (Ab s))) _=_;rw[e1,List.drop_append_of_le_length le,List.take_append_of_le_length le,G9,a];rfl
 · show(hk)▸?_;change _<=s'.tr.length;rw[e1,JT];lia
def Pf (g:Gr s s')(h:Ke r (Ab s)):Ke r (Ab s')/\Pd r (Ab s')=Pd r (Ab s):=by
 cases r with
 |nil=>show⟨show s'.ms=[] from g.ms.trans h,rfl⟩
 |cons e r=>
  obtain⟨m,h⟩:=h;obtain⟨a,b⟩:=sj g m;show⟨⟨b,by rw[a];show h⟩,?_⟩;unfold Pd;rw[a]
def Mb (g:Gr s s')(h:Sd (Ab s)):Sd (Ab s'):=by
 obtain⟨t,e1,_⟩:=g.ex;have:=g.sz;have a:s.tr.length+(AM s.d0+AM s.d1)<=100:=h.sh;have b:s.ms.length<=s.tr.length:=h.ms;show⟨(g.g h.g0 h.g1).1,(g.g h.g0 h.g1).2,(g.z h.n0 h.n1).1,(g.z h.n0 h.n1).2,?_,?_⟩
 · change s'.tr.length+(AM s'.d0+AM s'.d1)<=100;lia
 · change s'.ms.length<=s'.tr.length;rw[g.ms,e1,JT];lia
def Wv:∀ {x:Bx},Ke r x->x.ms.length=r.length:=by
 induction r with
 |nil=>intro x h;rw[show x.ms=[] from h]
 |cons e r ih=>
  intro x h;have h1:=ih h.2.2.2;have a:(C6 x).ms=x.ms.dropLast:=rfl;rw[a,uO] at h1;have:=nD.mpr h.1.ne;rw[Zh,<-h1,Nat.sub_add_cancel this]
def Zl.full (f:Zl s)(b:Sd (Ab s)):Af s:=by
 have a:s.tr.length+(AM s.d0+AM s.d1)<=100:=b.sh;have c:s.ms.length<=s.tr.length:=b.ms;show⟨⟨b.g0,b.g1,by lia,by lia⟩,b.n0,b.n1,f.e0,f.e1,f.l0,f.l1⟩
theorem Zl.pre (f:Zl s)(b:Sd (Ab s))(h:s.fl=false):Bu s:=⟨f.full b,h,b.sh⟩
theorem Zl.of (f:Zl s)(g:Gr s s'):Zl s':=⟨by show(g.f0)▸?_;show f.e0,by show(g.f1)▸?_;show f.e1,by show(g.f0)▸?_;show f.l0,by show(g.f1)▸?_;show f.l1⟩
structure U2 (n:Nat) (v:Int) (s:SS) (r:Bool) (s':SS):Prop where
 gr:Gr s s'
 nw:Nw s s'
 fl:r->s'.fl=s.fl
 yes:r->∀a b,(mem s'.d0 a/\mem s'.d1 b)<->(mem s.d0 a/\mem s.d1 b)/\gK n v a b
 no:r=false->∀a b,mem s.d0 a->mem s.d1 b->gK n v a b->False
theorem Nw.coreL (h:Nw s s')(c0:t.d0=s.d0)(c1:t.d1=s.d1)(m0:t.n0=s.n0)(m1:t.n1=s.n1):Nw t s':=⟨by rw[c0,m0];show h.n0,by rw[c1,m1];show h.n1⟩
def Kz {m} i o (v:Int){s}{r}{s'}(hg:Aq (s.dom i))(hK:∀a b,gK (m+1) v a b=holds o v (Bool.rec a b i))(g:gX (m+1)=i)(j:gO (m+1)=o)(e:(r,s')=Fq (m+1) v s):U2 (m+1) v s r s':=by
 have e:(r,s')=((AJ (gX (m+1)) (cut (gO (m+1)) (s.dom (gX (m+1))) v) {s with sp:=-2}).1,{(AJ (gX (m+1)) (cut (gO (m+1)) (s.dom (gX (m+1))) v) {s with sp:=-2}).2 with sp:=-1}):=e;rw[g,j] at e;cases q:AJ i (cut o (s.dom i) v) {s with sp:=-2} with
 |mk d s1=>
  rw[q] at e;cases e;cases i with
  |false=>
   have Z:Kv false o v {s with sp:=-2} d s1:=C2 (x:=false) (s:={s with sp:=-2}) hg q.symm;have hg:Aq s.d0:=hg;show⟨(Gr.coreL (s:={s with sp:=-2}) (t:=s) rfl Z.gr).coreR (s:=s1) (t:={s1 with sp:=-1}) rfl,⟨Z.nw.n0,Z.nw.n1⟩,λh=>(Z.yes h).1,λh a b=>?_,λh a b f hb hk=>?_⟩
   · have h1:s1.d0=cut o s.d0 v:=(Z.yes h).2;have c:s1.d1=s.d1:=Z.other;rw[hK];change mem s1.d0 a/\mem s1.d1 b=true<->_;rw[h1,c,BO hg,DQ];show⟨λ⟨⟨x,y⟩,z⟩=>⟨⟨x,z⟩,y⟩,λ⟨⟨x,z⟩,y⟩=>⟨⟨x,y⟩,z⟩⟩
   · have h1:cut o s.d0 v=[]:=(Z.no h).2;rw[hK] at hk;have h3:mem (cut o s.d0 v) a:=by rw[BO hg,f];show hk
     rw[h1] at h3;cases h3
  |true=>
   have Z:Kv true o v {s with sp:=-2} d s1:=C2 (x:=true) (s:={s with sp:=-2}) hg q.symm;have hg:Aq s.d1:=hg;show⟨(Gr.coreL (s:={s with sp:=-2}) (t:=s) rfl Z.gr).coreR (s:=s1) (t:={s1 with sp:=-1}) rfl,⟨Z.nw.n0,Z.nw.n1⟩,λh=>(Z.yes h).1,λh a b=>?_,λh a b f hb hk=>?_⟩
   · have h1:s1.d1=cut o s.d1 v:=(Z.yes h).2;have c:s1.d0=s.d0:=Z.other;rw[hK];change mem s1.d0 a/\mem s1.d1 b=true<->_;rw[h1,c,BO hg,DQ];show⟨λ⟨x,y,z⟩=>⟨⟨x,y⟩,z⟩,λ⟨⟨x,y⟩,z⟩=>⟨x,y,z⟩⟩
   · have h1:cut o s.d1 v=[]:=(Z.no h).2;rw[hK] at hk;have h3:mem (cut o s.d1 v) b:=by rw[BO hg,hb];show hk
     rw[h1] at h3;cases h3
def Rz {n}(hn:n<5){v:Int}{s}{r}{s'}(h0:Aq s.d0)(h1:Aq s.d1)(e:(r,s')=Fq n v s):U2 n v s r s':=by
 revert hn e;show n5 (λZ e=>?_) (λZ=>Kz false .le v h0 (λZ Z=>rfl) rfl rfl) (λZ=>Kz true .le v h1 (λZ Z=>rfl) rfl rfl) (λZ=>Kz false .ge v h0 (λZ Z=>rfl) rfl rfl) (λn hn=>?_) n
 · cases e;show⟨.refl _,.refl _,λZ=>rfl,λZ a b=>⟨λh=>⟨h,rfl⟩,λh=>h.1⟩,λh=>(nomatch h)⟩
 · cases n with|zero=>show Kz true .ge v h1 (λZ Z=>rfl) rfl rfl|succ n=>show absurd hn (Nat.not_lt_of_le (Nat.le_add_left 5 n))
def fD (h:l≠[]):l.reverse=l.getLastD BY::l.dropLast.reverse:=by
 have:=congrArg List.reverse (MW h);rw[List.reverse_append] at this;show this.symm
def I7 {e}{x}(h0:Aq x.d0)(h1:Aq x.d1){a b:Int}:I5 (Bv e x) (a,b)=true<->(mem x.d0 a/\mem x.d1 b)/\(Bool.rec a b e.x:Int)≥e.v+1:=by
 rw[BS];unfold Bv;cases e.x with
 |false=>
  change mem (cut .ge x.d0 (e.v+1)) a/\mem x.d1 b=true<->_;rw[BO h0,DQ];show⟨λ⟨⟨p,q⟩,r⟩=>⟨⟨p,r⟩,AAL q⟩,λ⟨⟨p,r⟩,q⟩=>⟨⟨p,Fy q⟩,r⟩⟩
 |true=>
  change mem x.d0 a/\mem (cut .ge x.d1 (e.v+1)) b=true<->_;rw[BO h1,DQ];show⟨λ⟨r,p,q⟩=>⟨⟨r,p⟩,AAL q⟩,λ⟨⟨r,p⟩,q⟩=>⟨r,p,Fy q⟩⟩
def Jw (h:Sd x)(br:Pc e x):0<B6 (Bv e x):=by
 have e0:=ends h.g0 h.n0;have e1:=ends h.g1 h.n1;have lt:=br.lt;unfold Bv B6;cases q:e.x with
 |false=>
  rw[q] at lt;have lt:e.v<Ax x.d0:=lt;change 0<AM (cut .ge x.d0 (e.v+1)) * AM x.d1;show Nat.mul_pos (Eg (BA h.g0 _) (v:=Ax x.d0) ?_) (Eg h.g1 e1.1);change mem (cut .ge x.d0 (e.v+1)) _;rw[BO h.g0,e0.2.1];show Fy (by lia)
 |true=>
  rw[q] at lt;have lt:e.v<Ax x.d1:=lt;change 0<AM x.d0 * AM (cut .ge x.d1 (e.v+1));show Nat.mul_pos (Eg h.g0 e0.1) (Eg (BA h.g1 _) (v:=Ax x.d1) ?_);change mem (cut .ge x.d1 (e.v+1)) _;rw[BO h.g1,e1.2.1];show Fy (by lia)
structure NM (p:PS) (s:SS) (e:El) (r:List El):Prop where
 g:U0 p
 f:Zl s
 b:Sd (Ab s)
 mo:eZ (Ab s)
 pb:Sd (C6 (Ab s))
 br:Pc e (C6 (Ab s))
 k:Ke r (C6 (Ab s))
 rev:p.pa.reverse=e::r
def NM.of (g:U0 p)(st:Kf s p.pa)(h:p.pa≠[]):NM p s (p.pa.getLastD BY) p.pa.dropLast.reverse:=by
 have e:=fD h;have k:=st.k;rw[e] at k;show⟨g,st.f,st.b,k.1,k.2.1,k.2.2.1,k.2.2.2,e⟩
section
variable {p:PS}{s:SS}{e:El}{r:List El}(Z:NM p s e r)
include Z
theorem NM.pop:HD s:=⟨Z.f.full Z.b,Z.mo.ne,Z.mo.lo,Z.mo.le⟩
theorem NM.f':Zl (EI s):=⟨Z.f.e0,Z.f.e1,Z.f.l0,Z.f.l1⟩
theorem NM.pre:Bu (EI s):=Z.f'.pre Z.pb rfl
def NM.bpre (hr:p.rf.length<=900):I6 ((p.pa.length:Int)-1) p s:=by
 show⟨rfl,Z.pop,Z.pre.toAf,Z.pre.tr_lt,Z.g,?_,?_,hr⟩
 · have h1:=Wv Z.k;have b:(C6 (Ab s)).ms=s.ms.dropLast:=rfl;have h3:s.ms.length<=s.tr.length:=Z.b.ms;have c:s.tr.length+(AM s.d0+AM s.d1)<=100:=Z.b.sh;have a:=congrArg List.length Z.rev;rw[List.length_reverse,Zh] at a;rw[b,uO] at h1;rw[a,<-h1];show EX (my (EX (Nat.sub_le ..) (EX h3 (EX (AAd ..) c)))) ∅
 · intro q;have:=Z.rev;rw[q] at this;ext this
def NM.ag:ag p.pa s=Bv e (C6 (Ab s))::Pd r (C6 (Ab s)):=by
 change Pd p.pa.reverse (Ab s)=_;show(Z.rev)▸?_;rfl
def NM.low (g:Gr (EI s) s'):Ke r (Ab s')/\Pd r (Ab s')=Pd r (C6 (Ab s)):=by
 have h:Ke r (Ab (EI s)):=Z.k;show Pf g h
def NM.rem K:Fd K (Internal.ag p.pa s)=E6 K (Bv e (C6 (Ab s)))++Fd K (Pd r (C6 (Ab s))):=by show(Z.ag)▸?_;rfl
def NM.phi:phi (Internal.ag p.pa s)=(3 * B6 (Bv e (C6 (Ab s)))-1)+Internal.phi (Pd r (C6 (Ab s))):=by show(Z.ag)▸?_;rfl
def NM.dead {q:PS}{s':SS}(g:Gr (EI s) s')(hq:q.pa.reverse=r)(hd:∀a b,I5 (Bv e (C6 (Ab s))) (a,b)->gK p.gn p.gv a b->False)(hl:q.rf.length<=p.rf.length+1):
 Kf s' q.pa/\q.rf.length+Internal.phi (Internal.ag q.pa s')<=p.rf.length+Internal.phi (Internal.ag p.pa s)/\Internal.phi (Internal.ag q.pa s')<=Internal.phi (Internal.ag p.pa s)/\∀K,Fd (KG K p) (Internal.ag q.pa s')=Fd (KG K p) (Internal.ag p.pa s):=by
 obtain⟨k1,c⟩:=Z.low g;have hp:=Jw Z.pb Z.br;have e1:Internal.ag q.pa s'=Pd r (C6 (Ab s)):=by change Pd q.pa.reverse _=_;rw[hq,c]
 show⟨⟨Z.f'.of g,Mb g Z.pb,by show(hq)▸?_;show k1⟩,?_,?_,λK=>?_⟩
 · rw[e1,Z.phi];show pA (a:=0) hl hp (QQ _)
 · rw[e1,Z.phi];show Nat.le_add_left ..
 · rw[e1,Z.rem,MY (K:=KG K p) λa b h1 d=>hd a b h1 (DQ.mp d).2];rfl
def NM.noAim (A:U2 p.gn p.gv (EI s) false s') a b (h:I5 (Bv e (C6 (Ab s))) (a,b))(hk:gK p.gn p.gv a b):False:=by
 obtain⟨⟨h1,c⟩,_⟩:=(I7 Z.pb.g0 Z.pb.g1).mp h;show A.no rfl a b h1 c hk
end
structure Pg (p:PS) (s:SS) (e:El) (s2:SS) (rs:Bool) (s3:SS):Prop where
 A:U2 p.gn p.gv (EI s) true s2
 C:Kv e.x .ge (e.v+1) {s2 with sp:=-2} rs s3
theorem Pg.gr (c:Pg p s e s2 rs s3):Gr (EI s) s3:=c.A.gr.trans (Gr.coreL (s:={s2 with sp:=-2}) (t:=s2) rfl c.C.gr)
section
variable {p:PS}{s:SS}{e:El}{r:List El}(Z:NM p s e r){s2 s3:SS}
include Z
theorem NM.g2 (A:U2 p.gn p.gv (EI s) true s2):Aq s2.d0/\Aq s2.d1:=A.gr.g Z.pb.g0 Z.pb.g1
def NM.noCut (c:Pg p s e s2 false s3) a b (h:I5 (Bv e (C6 (Ab s))) (a,b))(hk:gK p.gn p.gv a b):False:=by
 obtain⟨⟨h1,g⟩,h3⟩:=(I7 Z.pb.g0 Z.pb.g1).mp h;obtain⟨m0,m1⟩:=(c.A.yes rfl a b).mpr ⟨⟨h1,g⟩,hk⟩;obtain⟨g0,g1⟩:=Z.g2 c.A;have d:=(c.C.no rfl).2;cases q:e.x with
 |false=>
  rw[q] at h3 d;have d:cut .ge s2.d0 (e.v+1)=[]:=d;have f:mem (cut .ge s2.d0 (e.v+1)) a:=by rw[BO g0,m0];show Fy h3
  rw[d] at f;ext f
 |true=>
  rw[q] at h3 d;have d:cut .ge s2.d1 (e.v+1)=[]:=d;have f:mem (cut .ge s2.d1 (e.v+1)) b:=by rw[BO g1,m1];show Fy h3
  rw[d] at f;ext f
def NM.cutIn (c:Pg p s e s2 true s3) a b:I5 (s3.d0,s3.d1) (a,b)=true<->I5 (Bv e (C6 (Ab s))) (a,b)/\gK p.gn p.gv a b:=by
 obtain⟨g0,g1⟩:=Z.g2 c.A;have A:=c.A.yes rfl a b;have d:=(c.C.yes rfl).2;have f:=c.C.other;rw[BS,I7 Z.pb.g0 Z.pb.g1];have A:(mem s2.d0 a/\mem s2.d1 b)<->(mem (C6 (Ab s)).d0 a/\mem (C6 (Ab s)).d1 b)/\gK p.gn p.gv a b:=A;cases q:e.x with
 |false=>
  rw[q] at d f;have d:s3.d0=cut .ge s2.d0 (e.v+1):=d;have f:s3.d1=s2.d1:=f;change mem s3.d0 a/\mem s3.d1 b=true<->_;rw[d,f,BO g0,DQ];have hd:holds .ge (e.v+1) a=true<->a≥e.v+1:=Oi;rw[hd];show⟨λ⟨⟨x,y⟩,z⟩=>let ⟨u,w⟩:=A.mp ⟨x,z⟩;⟨⟨u,y⟩,w⟩,λ⟨⟨u,y⟩,w⟩=>let ⟨x,z⟩:=A.mpr ⟨u,w⟩;⟨⟨x,y⟩,z⟩⟩
 |true=>
  rw[q] at d f;have d:s3.d1=cut .ge s2.d1 (e.v+1):=d;have f:s3.d0=s2.d0:=f;change mem s3.d0 a/\mem s3.d1 b=true<->_;rw[d,f,BO g1,DQ];have hd:holds .ge (e.v+1) b=true<->b≥e.v+1:=Oi;rw[hd];show⟨λ⟨x,z,y⟩=>let ⟨u,w⟩:=A.mp ⟨x,z⟩;⟨⟨u,y⟩,w⟩,λ⟨⟨u,y⟩,w⟩=>let ⟨x,z⟩:=A.mpr ⟨u,w⟩;⟨x,z,y⟩⟩
def NM.cutNews (c:Pg p s e s2 true s3):(s3.n0||s3.n1):=by
 have nw:=c.A.nw.trans c.A.gr (Gr.coreL (s:={s2 with sp:=-2}) (t:=s2) rfl c.C.gr) (c.C.nw.coreL (t:=s2) rfl rfl rfl rfl);have a:=(c.C.yes rfl).2;have m:=Z.br.m;obtain⟨g0,g1⟩:=Z.g2 c.A;cases q:e.x with
 |false=>
  rw[q] at a m;have a:s3.d0=cut .ge s2.d0 (e.v+1):=a;have m:mem (EI s).d0 e.v:=m;have ne:s3.d0≠(EI s).d0:=λz=>by
   rw[<-z,a,BO g0] at m;have b:=(DQ.mp m).2;have b:e.v≥e.v+1:=AAL b;lia
  rw[nw.n0,Fy ne];simp
 |true=>
  rw[q] at a m;have a:s3.d1=cut .ge s2.d1 (e.v+1):=a;have m:mem (EI s).d1 e.v:=m;have ne:s3.d1≠(EI s).d1:=λz=>by
   rw[<-z,a,BO g1] at m;have b:=(DQ.mp m).2;have b:e.v≥e.v+1:=AAL b;lia
  rw[nw.n1,Fy ne];simp
def NM.taken (c:Pg p s e s2 true s3)(hq:q.pa.reverse=r)(hl:q.rf.length<=p.rf.length+1)(hg:q.gn=p.gn/\q.gv=p.gv):Yb p s q s3:=by
 have g:=c.gr;obtain⟨k1,f⟩:=Z.low g;have hb:=Mb g Z.pb;have hf:=Z.f'.of g;have fl:s3.fl=false:=((c.C.yes rfl).1).trans ((c.A.fl rfl).trans rfl);have hp:=Jw Z.pb Z.br;have e1:Internal.ag q.pa s3=Pd r (C6 (Ab s)):=by change Pd q.pa.reverse _=_;rw[hq,f]
 have i:∃v,mem s3.d0 v:=⟨_,(ends hb.g0 hb.n0).1⟩
 have j:∃v,mem s3.d1 v:=⟨_,(ends hb.g1 hb.n1).1⟩
 have sub:B6 (s3.d0,s3.d1)<=B6 (Bv e (C6 (Ab s))):=by
  obtain⟨k,h0⟩:=i;obtain⟨l,h1⟩:=j;show Ma (λv h=>(BS.mp ((Z.cutIn c v l).mp (BS.mpr ⟨h,h1⟩)).1).1) (λv h=>(BS.mp ((Z.cutIn c k v).mp (BS.mpr ⟨h0,h⟩)).1).2)
 have eK:∀K,KG K q=KG K p:=λK=>by unfold KG;rw[hg.1,hg.2]
 show⟨hf.pre hb fl,by show(hq)▸?_;show k1,hb.ms,Z.cutNews c,λa b m hb=>?_,λK=>?_,?_,?_⟩
 · rw[hg.1,hg.2];show((Z.cutIn c a b).mp (BS.mpr ⟨m,hb⟩)).2
 · rw[e1,Z.rem,eK];show congrArg (· ++_) (IX λa b=>?_);have h:=Z.cutIn c a b;unfold KG;cases h1:I5 (s3.d0,s3.d1) (a,b) with
   |true=>
    obtain⟨d,h3⟩:=h.mp h1;rw[d,h3]
   |false=>
    cases d:I5 (Bv e (C6 (Ab s))) (a,b) with
    |false=>rfl
    |true=>
     cases h3:gK p.gn p.gv a b with
     |false=>simp
     |true=>rw[h.mpr ⟨d,h3⟩] at h1;ext h1
 · rw[e1,Z.phi];show pA hl hp sub
 · rw[e1,Z.phi];show o9 hp sub
end
theorem Ph (h:decide ((l.length:Int)>0)):l≠[]:=λe=>by subst e;ext h
def sn (h:decide ((l.length:Int)>0)=false):l=[]:=by
 have h:=NT h;show List.eq_nil_of_length_eq_zero (by lia)
def Kf.len (h:Kf s pa):pa.length<=100:=by
 have h1:=Wv h.k;have a:s.ms.length<=s.tr.length:=h.b.ms;have h3:s.tr.length+(AM s.d0+AM s.d1)<=100:=h.b.sh;have b:(Ab s).ms.length=s.ms.length:=rfl;rw[List.length_reverse] at h1;show h1▸EX a (EX (AAd ..) h3)
theorem Cw.first (h:HE p.1 p.2.1):Cw p p:=⟨h.g,.refl _,rfl,h.st,QJ _,QJ _,h.ph,λZ=>rfl⟩
section
variable {p₀ p:QS}(I:Cw p₀ p)
include I
theorem Cw.rf:p.1.rf.length<=900:=EX (EX (AAd _ _) I.ph) I.ph0
theorem Cw.stp (h:decide ((p.1.pa.length:Int)>0)):NM p.1 p.2.1 (p.1.pa.getLastD BY) p.1.pa.dropLast.reverse:=NM.of I.g I.st (Ph h)
theorem Cw.bpre (h:decide ((p.1.pa.length:Int)>0)):I6 ((p.1.pa.length:Int)-1) p.1 p.2.1:=(I.stp h).bpre I.rf
def Cw.eK K:KG K p.1=KG K p₀.1:=by unfold KG;rw[I.same]
theorem Cw.aim (h:decide ((p.1.pa.length:Int)>0)){r}{j}{s2}(B:Dl p.1 p.2.1 r j s2):U2 p.1.gn p.1.gv (EI p.2.1) r s2:=Rz I.g.lt (I.stp h).pb.g0 (I.stp h).pb.g1 B.aim
def Cw.ok (h:decide ((p.1.pa.length:Int)>0))(B:Dl p.1 p.2.1 r j s2):E2 {s2 with sp:=-2}:=by
 have f:=((I.stp h).f'.of (I.aim h B).gr).full (Mb (I.aim h B).gr (I.stp h).pb);show⟨f.g0,f.g1,f.tr,f.ms⟩
def Cw.back (h:decide ((p.1.pa.length:Int)>0)){r:Bool}{b:PS}{s2:SS}(B:Dl p.1 p.2.1 r b s2){a:AS}{l:El}(hv:o7 a p₀.2)(g:Gr (EI p.2.1) a.1)
 (hd:∀x y,I5 (Bv (p.1.pa.getLastD BY) (C6 (Ab p.2.1))) (x,y)->gK p.1.gn p.1.gv x y->False):Cw p₀ ({b with rf:=b.rf++[l]},a):=by
 have hq:b.pa=p.1.pa.dropLast:=by rw[B.same]
 have hl:(b.rf++[l]).length<=p.1.rf.length+1:=by rw[JT];show my B.rf
 obtain⟨h1,c,h3,d⟩:=(I.stp h).dead (q:={b with rf:=b.rf++[l]}) g (by change b.pa.reverse=_;rw[hq]) hd hl;have e:b={p.1 with pa:=b.pa,rf:=b.rf}:=by rw[B.same]
 show⟨⟨by change b.gn<5;rw[e];show I.g.lt,by change b.gn=0->b.gv=0;rw[e];show I.g.z⟩,hv,?_,h1,EX c I.ph,EX h3 I.me,I.ph0,λK=>?_⟩
 · change ({b with rf:=b.rf++[l]}:PS)={p₀.1 with pa:=b.pa,rf:=b.rf++[l]}
   rw[e,I.same]
 · have f:KG K {b with rf:=b.rf++[l]}=KG K p.1:=by unfold KG;rw[e]
   rw[f,d K,I.sol]
def Cw.backA (h:decide ((p.1.pa.length:Int)>0)){r}{j}{s2}(B:Dl p.1 p.2.1 r j s2)(hr:r=false){x}{v}{l}(hv:o7 ({s2 with sp:=-2},x,v) p₀.2):Cw p₀ ({j with rf:=j.rf++[l]},{s2 with sp:=-2},x,v):=by
 subst hr;show I.back h B hv (Gr.coreR (s:=s2) (t:={s2 with sp:=-2}) rfl (I.aim h B).gr) ((I.stp h).noAim (I.aim h B))
def Cw.cutt (h:decide ((p.1.pa.length:Int)>0)){r}{j}{s2}(B:Dl p.1 p.2.1 r j s2)(hr:r){z} i (hi:(p.1.pa.getLastD BY).x=i)
 (e:z=AJ i (cut .ge (({s2 with sp:=-2}:SS).dom i) ((p.1.pa.getLastD BY).v+1)) {s2 with sp:=-2}):Pg p.1 p.2.1 (p.1.pa.getLastD BY) s2 z.1 z.2:=by
  subst hr;have A:=I.aim h B;show⟨A,?_⟩;show(hi)▸?_;show C2 ((I.ok h B).g i) e
def Cw.backB (h:decide ((p.1.pa.length:Int)>0)){r}{j}{s2}(B:Dl p.1 p.2.1 r j s2){rs}{s3}(c:Pg p.1 p.2.1 (p.1.pa.getLastD BY) s2 rs s3)(a:rs=false){x}{v}{l}(hv:o7 (s3,x,v) p₀.2):Cw p₀ ({j with rf:=j.rf++[l]},s3,x,v):=by
 subst a;show I.back h B hv c.gr ((I.stp h).noCut c)
def Cw.done (h:decide ((p.1.pa.length:Int)>0)){r}{j}{s2}(B:Dl p.1 p.2.1 r j s2){rs}{s3}(c:Pg p.1 p.2.1 (p.1.pa.getLastD BY) s2 rs s3)(a:rs){l}:E7 p₀.1 p₀.2.1 true {j with rf:=j.rf++[l]} s3:=by
 subst a;have hq:j.pa=p.1.pa.dropLast:=by rw[B.same]
 have hl:(j.rf++[l]).length<=p.1.rf.length+1:=by rw[JT];show my B.rf
 have e:j={p.1 with pa:=j.pa,rf:=j.rf}:=by rw[B.same]
 have T:=(I.stp h).taken (q:={j with rf:=j.rf++[l]}) c (by change j.pa.reverse=_;rw[hq]) hl ⟨by change j.gn=_;rw[e],by change j.gv=_;rw[e]⟩;show⟨?_,λZ=>⟨T.pre,T.k,T.ms,T.news,T.g,λK=>?_,EX T.ph I.ph,pd T.me I.me⟩,λh=>(nomatch h)⟩
 · change ({j with rf:=j.rf++[l]}:PS)={p₀.1 with pa:=j.pa,rf:=j.rf++[l]}
   rw[e,I.same]
 · rw[T.sol K,I.sol]
def Cw.over (h:decide ((p.1.pa.length:Int)>0)=false):E7 p₀.1 p₀.2.1 false p.1 p.2.1:=by
 show⟨I.same,λh=>(nomatch h),λZ K=>?_⟩;rw[<-I.sol K];change Fd _ (Pd p.1.pa.reverse _)=[]
 show(sn h)▸?_;rfl
def Cw.meas (h:decide ((p.1.pa.length:Int)>0)){r}{j}{s2}(B:Dl p.1 p.2.1 r j s2):j.pa.length<p.1.pa.length:=by
 have hq:j.pa=p.1.pa.dropLast:=by rw[B.same]
 have:=nD.mpr (Ph h);rw[hq,uO];show Nat.sub_lt this Nat.one_pos
def Cw.paQ (B:Dl p.1 p.2.1 r j s2):j.pa.length<=1000:=by
 have hq:j.pa=p.1.pa.dropLast:=by rw[B.same]
 have:=I.st.len;rw[hq,uO];show EX (Nat.sub_le ..) (EX this ∅)
def Cw.rfQ (B:Dl p.1 p.2.1 r j s2):j.rf.length<=1000:=by
 have:=I.rf;have:=B.rf;lia
end
end
section
open PySem PySem.W PySem.Spec PySem.Calls PyProof.Rows
def wT (q:PS)(s:SS):Nat:=(3 * B6 (s.d0,s.d1)-2)+phi (ag q.pa s)
def wF (q:PS)(s:SS):Nat:=phi (ag q.pa s)
def IY (K:Int->Int->Bool)(q:PS)(s:SS):List (Int×Int):=E6 (KG K q) (s.d0,s.d1)++Fd (KG K q) (ag q.pa s)
def Jx (K:Int->Int->Bool)(q:PS)(s:SS):List (Int×Int):=Fd (KG K q) (ag q.pa s)
structure PT (q:PS) (s:SS):Prop where
 pre:Bu s
 k:Ke q.pa.reverse (Ab s)
 ms:s.ms.length<=s.tr.length
 g:Jv q s
structure TS (K:Int->Int->Bool) (q:PS) (s:SS):Prop extends PT q s where
 m0:s.n0=false
 m1:s.n1=false
 fin:AT s.d0->AT s.d1->K (Ac s.d0) (Ac s.d1)
structure lB (K:Int->Int->Bool) (q:PS) (s:SS) (st:Bool) (R:List (Int×Int)) (m:Nat):Prop where
 yes:st->TS K q s/\IY K q s=R/\q.rf.length+wT q s<=900/\wT q s<m
 no:st=false->Kf s q.pa/\Jx K q s=R/\q.rf.length+wF q s<=900/\wF q s+1<m
def K0 (x:Bool)(v:Int):El:=⟨x,[],v,0,""⟩
def Df (x:Bool):Spec where
 P:=Int×SS
 d:=(0,IT)
 args:=λp=>[.ref 0,.d (.tup [.int (CZ x),.str "<=",.int p.1])]
 cells:=λp=>E1 p.2 0
 pre:=λp=>E2 p.2/\cut .le (p.2.dom x) p.1≠[]
 ext:=λl σ=>(rI (Ae (DH (Ae l 1)) 2),Dv σ 0)
 outs:=[{Q:=Bool×SS,d:=(false,IT),res:=λZ q=>ba q.1,cells:=λZ q=>E1 q.2 0,post:=λp q=>q=AJ x (cut .le (p.2.dom x) p.1) p.2,ext:=λZ a σ=>(rB a,Dv σ 0),sel:=yes}]
def xw (l:List AV)(_:AC):Bool:=zM 1 (Ae (DH (Ae l 1)) 0)
structure ED (p:PS) (s:SS) (r:Bool) (q:PS) (s':SS):Prop where
 an:q.an=false
 t:E7 {p with an:=q.an,fs:=q.fs,sc:=q.sc} s r q s'
def outQ (b:Bool)(post:QS->Bool->PS->SS->Prop):Re QS:={Q:=Bool×PS×SS,d:=(false,eX,IT),res:=λZ q=>ba q.1,cells:=λp q=>GS b (nS b) (q.2.1,q.2.2,p.2.2)++NL (q.2.1,q.2.2,p.2.2),post:=λp q=>post p q.1 q.2.1 q.2.2,ext:=λZ a σ=>(rB a,(C5 σ (nS b)).1,(C5 σ (nS b)).2.1),sel:=yes}
def EU (b:Bool):Spec where
 P:=QS
 d:=QN
 args:=λZ=>[.ref 0]
 cells:=D2 b
 pre:=λp=>HE p.1 p.2.1
 ext:=λZ σ=>AAP σ
 outs:=[outQ b λp r q s'=>ED p.1 p.2.1 r q s']
structure DY (b:Bool) (x:Bool) (v:Int) (p:QS):Prop where
 t:TS (CO b p.2.2.2) p.1 p.2.1
 nf:AT (p.2.1.dom x)=false
 f0:x->AT p.2.1.d0
 v:v=Ac (p.2.1.dom x)
 ph:p.1.rf.length+wT p.1 p.2.1<=900
 vs:Uy b p.2.2.2
 one:One b p.2.2.1
structure EP (b:Bool) (x:Bool) (v:Int) (p:QS) (r:Bool) (q:PS) (s':SS) (x':ES):Prop where
 same:q={p.1 with nd:=q.nd,pa:=p.1.pa++[K0 x v]}
 st:lB (CO b p.2.2.2) q s' r (IY (CO b p.2.2.2) p.1 p.2.1) (wT p.1 p.2.1)
 one:One b x'
def Dx (b:Bool)(x:Bool):Spec where
 P:=Int×QS
 d:=(0,QN)
 args:=λp=>[.ref 0,.d (.tup [.int (CZ x),.str "<=",.int p.1])]
 cells:=λp=>D2 b p.2
 pre:=λp=>DY b x p.1 p.2
 ext:=λl σ=>(rI (Ae (DH (Ae l 1)) 2),AAP σ)
 outs:=[{Q:=Bool×PS×SS×ES,d:=(false,eX,IT,eG),res:=λZ q=>ba q.1,cells:=λp q=>GS b (nS b) (q.2.1,q.2.2.1,q.2.2.2,p.2.2.2.2)++NL (q.2.1,q.2.2.1,q.2.2.2,p.2.2.2.2),post:=λp q=>EP b x p.1 p.2 q.1 q.2.1 q.2.2.1 q.2.2.2,ext:=λZ a σ=>(rB a,(C5 σ (nS b)).1,(C5 σ (nS b)).2.1,(C5 σ (nS b)).2.2.1),sel:=yes}]
def fE:List (Addr×Nat×Hl):=(Ey,40,BZ Df xw)::(DG,131,BZ GU U1)::fC
def ua:=Hx fE [] Cv Bs De
end
section
def ar_w {a b c φ:Nat}(d:0<a)(hb:0<b)(e:a+b=c):(3 * a-2)+((3 * b-1)+φ)+1<=(3 * c-2)+φ:=by
 subst e;show Nat.le_of_eq ?_;rw[Nat.mul_add,Nat.sub_add_comm (EX ∅ (Zt 3 d)),Nat.add_assoc (3 * a-2),Nat.add_right_comm (3 * b-1) φ 1,Nat.sub_add_cancel (EX ∅ (Zt 3 hb)),Nat.add_assoc]
theorem Yc {d0 d1}(g0:Aq d0)(g1:Aq d1)(n0:d0≠[])(n1:d1≠[]):0<B6 (d0,d1):=Nat.mul_pos (Eg g0 (ends g0 n0).1) (Eg g1 (ends g1 n1).1)
def xx {s s'}(g:Gr s s'){a b}(h:I5 (s'.d0,s'.d1) (a,b)):I5 (s.d0,s.d1) (a,b):=by
 obtain⟨h0,h1⟩:=BS.mp h;show BS.mpr ⟨g.s0 a h0,g.s1 b h1⟩
def xy (g:Gr s s')(h:s.ms.length<=s.tr.length):s'.ms.length<=s'.tr.length:=by
 obtain⟨t,e,_⟩:=g.ex;rw[g.ms,e,JT];lia
theorem fF (g:Gr s s'):B6 (s'.d0,s'.d1)<=B6 (s.d0,s.d1):=Ma g.s0 g.s1
theorem so (g:Gr s s')(h:Jv q s):Jv q s':=λa b c hb=>h a b (g.s0 a c) (g.s1 b hb)
def sq (g:Gr s s')(h:∀a b,mem s.d0 a->mem s.d1 b->K a b->mem s'.d0 a/\mem s'.d1 b):E6 (KG K q) (s'.d0,s'.d1)=E6 (KG K q) (s.d0,s.d1):=by
 show IX λa b=>?_;cases hk:KG K q a b with
 |false=>rw[pk,pk]
 |true=>
  rw[jL,jL];have hk:K a b:=(DQ.mp hk).1;cases h1:I5 (s'.d0,s'.d1) (a,b) with
  |true=>show(xx g h1).symm
  |false=>
   cases c:I5 (s.d0,s.d1) (a,b) with
   |false=>rfl
   |true=>
    obtain⟨x,y⟩:=BS.mp c;rw[BS.mpr (h a b x y hk)] at h1;ext h1
theorem PT.f (T:PT q s):Zl s:=⟨T.pre.e0,T.pre.e1,T.pre.l0,T.pre.l1⟩
theorem PT.b (T:PT q s):Sd (Ab s):=⟨T.pre.g0,T.pre.g1,T.pre.n0,T.pre.n1,T.pre.sh,T.ms⟩
theorem PT.pos (T:PT q s):0<B6 (s.d0,s.d1):=Yc T.pre.g0 T.pre.g1 T.pre.n0 T.pre.n1
theorem U3 {b}{q}{s s'}{x x'}{v}{r}{m}(T:PT q s)(E:Kc b (s,x,v) r s' x')(hp:q.rf.length+wT q s<=900)(hm:wT q s<m):lB (CO b v) q s' r (IY (CO b v) q s) m where
 yes:=λhr=>by
  have E:CL b s v s' x':=E.1 hr;have g:Gr s s':=E.shr.gr;obtain⟨k1,d⟩:=Pf g T.k;have e1:ag q.pa s'=ag q.pa s:=d;have hn:=fF g;have c:wT q s'<=wT q s:=by unfold wT;show(e1)▸?_;show Nat.add_le_add_right (Nat.sub_le_sub_right (Zt 3 hn) 2) _
  show⟨⟨⟨E.pre,k1,xy g T.ms,so g T.g⟩,E.m0,E.m1,E.fin⟩,?_,EX (uL c _) hp,jN c hm⟩;unfold IY;rw[e1,sq g E.shr.sol]
 no:=λhr=>by
  have E:CM b s v s' x':=E.2 hr;have g:Gr s s':=E.dead.gr;obtain⟨k1,d⟩:=Pf g T.k;have e1:ag q.pa s'=ag q.pa s:=d;have hn:=T.pos;have c:wF q s'+1<=wT q s:=by unfold wF wT;show(e1)▸?_;omega
  show⟨⟨T.f.of g,Mb g T.b,k1⟩,?_,by omega,jN c hm⟩;unfold Jx IY;rw[e1,MY (K:=KG (CO b v) q) λa b h1 f=>E.dead.no a b (BS.mp h1).1 (BS.mp h1).2 (DQ.mp f).1];rfl
theorem Yb.pt (Y:Yb p s q s'):PT q s':=⟨Y.pre,Y.k,Y.ms,Y.g⟩
def AAY (Y:Yb p s q s')(hp:p.rf.length+wF p s<=900)(E:Kc b (s',x,v) r s'' x'):lB (CO b v) q s'' r (Jx (CO b v) p s) (wF p s+1):=by
 have h:=Y.sol (CO b v);have ph:=Y.ph;have me:=Y.me;have:=U3 (m:=wF p s+1) Y.pt E (by unfold wT;unfold wF at hp;lia) (by unfold wT wF;lia);unfold IY at this;unfold Jx;rw[h] at this;show this
theorem OJ (Y:Yb p s q s')(vs:Uy b v)(one:One b x):Fc b s' x v:=⟨Y.pre,vs,one,.inl Y.news⟩
def Pj {P Q:Int×Int->Bool}{l:List (Int×Int)}(h:l.Pairwise λp a=>P p->P a->Q p=false->Q a=false):(l.filter λp=>P p&&Q p)++(l.filter λp=>P p&&!(Q p))=l.filter P:=by
 induction h with
 |nil=>rfl
 | @cons p l hp _ ih=>
   rw[nB,nB,nB];cases h1:P p with
   |false=>show ih
   |true=>
    cases c:Q p with
    |true=>show congrArg (p:: ·) ih
    |false=>
     have e1:(l.filter λp=>P p&&Q p)=[]:=by
      rw[pi];intro y d e;have f:=aL e;have b:=aR e;rw[hp y d h1 f c] at b;ext b
     rw[e1] at ih;change ([]:List (Int×Int))++_=_;rw[e1];show congrArg (p:: ·) ih
def fG:I4.Pairwise λp a=>p.1<a.1∨(p.1=a.1/\p.2<=a.2):=by
 have:(I4.Pairwise λp a=>p.1<a.1∨(p.1=a.1/\p.2<=a.2))=([((0:Int),(0:Int)),(0,1),(0,2),(0,3),(1,0),(1,1),(1,2),(1,3),(2,0),(2,1),(2,2),(2,3),(3,0),(3,1),(3,2),(3,3)].Pairwise λp a=>p.1<a.1∨(p.1=a.1/\p.2<=a.2)):=rfl;show(this)▸?_
 decide
def Mc:∀d∈NK,∀v∈([0,1,2,3]:List Int),AM (cut .le d v)+AM (cut .ge d (v+1))=AM d:=by decide+kernel
def Md (x:Bool)(v:Int)(d:jK):jK:=match x with|false=>(cut .le d.1 v,d.2)|true=>(d.1,cut .le d.2 v)
def lC {x}{v}{d}(g0:Aq d.1)(g1:Aq d.2){a b}:I5 (Md x v d) (a,b)=(I5 d (a,b)&&decide ((Bool.rec a b x:Int)<=v)):=by
 cases x with
 |false=>
  change (mem (cut .le d.1 v) a&&mem d.2 b)=_;rw[BO g0,Bool.and_right_comm];rfl
 |true=>
  change (mem d.1 a&&mem (cut .le d.2 v) b)=_;rw[BO g1,<-pe];rfl
def Yd {e}{y}(g0:Aq y.d0)(g1:Aq y.d1){a b}:I5 (Bv e y) (a,b)=(I5 (y.d0,y.d1) (a,b)&&!(decide ((Bool.rec a b e.x:Int)<=e.v))):=by
 rw[Bool.eq_iff_iff,I7 g0 g1,DQ,BS];have:((Bool.rec a b e.x:Int)≥e.v+1)<->(!(decide ((Bool.rec a b e.x:Int)<=e.v))):=by
  rw[Bool.not_eq_true',decide_eq_false_iff_not];lia
 rw[this]
def Ye {K}{x:Bool}{v:Int}{y:Bx}(b:Sd y)(f0:x->AT y.d0):E6 K (Md x v (y.d0,y.d1))++E6 K (Bv (K0 x v) y)=E6 K (y.d0,y.d1):=by
 have e1:E6 K (Md x v (y.d0,y.d1))=I4.filter λp=>(I5 (y.d0,y.d1) p&&K p.1 p.2)&&decide ((Bool.rec p.1 p.2 x:Int)<=v):=uP λp Z=>by
  rw[show I5 (Md x v (y.d0,y.d1)) p=_ from lC b.g0 b.g1,Bool.and_right_comm]
 have d:E6 K (Bv (K0 x v) y)=I4.filter λp=>(I5 (y.d0,y.d1) p&&K p.1 p.2)&&!(decide ((Bool.rec p.1 p.2 x:Int)<=v)):=uP λp Z=>by
  rw[show I5 (Bv (K0 x v) y) p=_ from Yd b.g0 b.g1,Bool.and_right_comm];rfl
 rw[e1,d];show Pj (fG.imp λ{p c} h h1 f h3=>?_);have h3:=NT h3;show Zr λa=>h3 ?_;cases x with
 |false=>
  have a:c.1<=v:=a;change p.1<=v
  omega
 |true=>
  have a:c.2<=v:=a;change p.2<=v;have m1:=(BS.mp (DQ.mp h1).1).1;have g:=(BS.mp (DQ.mp f).1).1;have q1:=(Co b.g0 b.n0 (f0 rfl) _).mp m1;have i:=(Co b.g0 b.n0 (f0 rfl) _).mp g
  omega
def R3 {x}{v:Int}{y}(b:Sd y)(hv:v∈([0,1,2,3]:List Int)):B6 (Md x v (y.d0,y.d1))+B6 (Bv (K0 x v) y)=B6 (y.d0,y.d1):=by
 cases x with
 |false=>
  change AM (cut .le y.d0 v) * AM y.d1+AM (cut .ge y.d0 (v+1)) * AM y.d1=AM y.d0 * AM y.d1;rw[<-Nat.add_mul,Mc _ b.g0 v hv]
 |true=>
  change AM y.d0 * AM (cut .le y.d1 v)+AM y.d0 * AM (cut .ge y.d1 (v+1))=AM y.d0 * AM y.d1;rw[<-Nat.mul_add,Mc _ b.g1 v hv]
def Ck (s:SS)(e:El):SS:={s with ms:=s.ms++[e]}
def fH (he:e.v=(s.tr.length:Int)):eZ (Ab (Ck s e))/\C6 (Ab (Ck s e))=Ab s:=by
 have hl:((Ab (Ck s e)).ms.getLastD BY).v=(s.tr.length:Int):=by
  change ((s.ms++[e]).getLastD BY).v=_;show(List.getLastD_concat)▸?_;show he
 have hm:markB (Ab (Ck s e))=s.tr.length:=by unfold markB;show(hl)▸?_;rfl
 show⟨⟨by change s.ms++[e]≠[];simp,by show(hl)▸?_;lia,by show(hm)▸?_;show QJ _⟩,?_⟩;unfold C6;show(hm)▸?_;change Bx.mk (AAO (s.tr.drop s.tr.length) (s.d0,s.d1)).1 (AAO (s.tr.drop s.tr.length) (s.d0,s.d1)).2 (s.tr.take s.tr.length) (s.ms++[e]).dropLast=_;rw[List.drop_length,List.take_length,List.dropLast_concat];rfl
section
variable {b x:Bool}{v:Int}{p:QS}(D:DY b x v p){e:El}(he:e.v=(p.2.1.tr.length:Int)){z:Bool×SS}(hz:z=AJ x (cut .le ((Ck p.2.1 e).dom x) v) (Ck p.2.1 e))
include D
theorem DY.bok:Sd (Ab p.2.1):=D.t.toPT.b
theorem DY.ok:E2 (Ck p.2.1 e):=⟨D.t.pre.g0,D.t.pre.g1,D.t.pre.tr,by
 have h1:=D.t.ms;have a:=D.t.pre.sh;change (p.2.1.ms++[e]).length<=900;rw[JT,uN];lia⟩
def DY.gd:Aq (p.2.1.dom x)/\p.2.1.dom x≠[]:=by ext x;show⟨D.t.pre.g0,D.t.pre.n0⟩;show⟨D.t.pre.g1,D.t.pre.n1⟩
def DY.br:Pc (K0 x v) (Ab p.2.1):=by
 obtain⟨g,n⟩:=D.gd;have h:=ends g n;have hf:=D.nf;have e1:(Ab p.2.1).dom x=p.2.1.dom x:=by cases x<;>rfl
 have hl:Ac (p.2.1.dom x)≠Ax (p.2.1.dom x):=λq=>by rw[(GL _ g n).mpr q] at hf;ext hf
 show⟨?_,?_⟩
 · change mem ((Ab p.2.1).dom x) v;rw[e1,D.v];show h.1
 · change v<Ax ((Ab p.2.1).dom x);rw[e1,D.v];omega
def DY.v4:v∈([0,1,2,3]:List Int):=by
 obtain⟨g,n⟩:=D.gd;show(D.v)▸?_;show IS g (ends g n).1
theorem DY.ne:cut .le ((Ck p.2.1 e).dom x) v≠[]:=λh1=>by
 obtain⟨g,n⟩:=D.gd;have h:=ends g n;have b:(Ck p.2.1 e).dom x=p.2.1.dom x:=by cases x<;>rfl
 rw[b] at h1;have a:mem (cut .le (p.2.1.dom x) v) v:=by
  rw[BO g,D.v,h.1];show Fy (Int.le_refl _)
 rw[h1] at a;ext a
theorem DY.yes:z=AJ x (cut .le ((Ck p.2.1 e).dom x) v) (Ck p.2.1 e)->z=(true,Kb x (cut .le (p.2.1.dom x) v) (Ck p.2.1 e)):=λhz=>by
 obtain⟨g,n⟩:=D.gd;have h:=ends g n;have hb:=D.br;have e1:(Ab p.2.1).dom x=p.2.1.dom x:=by cases x<;>rfl
 have a:(Ck p.2.1 e).dom x=p.2.1.dom x:=by cases x<;>rfl
 have lt:v<Ax (p.2.1.dom x):=by have:=hb.lt;rw[show (K0 x v).x=x from rfl,e1] at this;show this
 rw[hz,a]
 rcases GN x (cut .le (p.2.1.dom x) v) (Ck p.2.1 e) with ⟨h1,_⟩|⟨_,h1,_⟩|⟨_,_,h1⟩
 · show absurd (by rw[a];show h1) (D.ne (e:=e))
 · rw[a] at h1;have b:mem (cut .le (p.2.1.dom x) v) (Ax (p.2.1.dom x)):=by rw[h1];show h.2.1
   rw[BO g,DQ] at b;have b:Ax (p.2.1.dom x)<=v:=AAL b.2;lia
 · show h1
end
section
variable {b x:Bool}{v:Int}{p:QS}(D:DY b x v p){e:El}(he:e.v=(p.2.1.tr.length:Int)){z:Bool×SS}(hz:z=AJ x (cut .le ((Ck p.2.1 e).dom x) v) (Ck p.2.1 e)){q:PS}(hq:q.pa=p.1.pa++[K0 x v])(hr:q.rf=p.1.rf)(hg:q.gn=p.1.gn/\q.gv=p.1.gv)
include D he hz hq hr hg
def DY.gr:Gr (Ck p.2.1 e) z.2:=by
 have a:(Ck p.2.1 e).dom x=p.2.1.dom x:=by cases x<;>rfl
 show(C2 (x:=x) (o:=.le) (k:=v) (s:=Ck p.2.1 e) (by show(a)▸?_;show D.gd.1) hz).gr
def DY.low:Ke q.pa.reverse (Ab z.2)/\ag q.pa z.2=Bv (K0 x v) (Ab p.2.1)::ag p.1.pa p.2.1:=by
 obtain⟨m1,a⟩:=fH (s:=p.2.1) he;have k:Ke (K0 x v::p.1.pa.reverse) (Ab (Ck p.2.1 e)):=⟨m1,by show(a)▸?_;show⟨D.bok,D.br,D.t.k⟩⟩
 obtain⟨k1,b⟩:=Pf (D.gr he hz hq hr hg) k;have e1:q.pa.reverse=K0 x v::p.1.pa.reverse:=by rw[hq,List.reverse_append];rfl
 show⟨by show(e1)▸?_;show k1,?_⟩;change Pd q.pa.reverse _=_;rw[e1,b,show Pd (K0 x v::p.1.pa.reverse) (Ab (Ck p.2.1 e))=Bv (K0 x v) (C6 (Ab (Ck p.2.1 e)))::Pd p.1.pa.reverse (C6 (Ab (Ck p.2.1 e))) from rfl,a]
def DY.box:(z.2.d0,z.2.d1)=Md x v (p.2.1.d0,p.2.1.d1):=by
 show(D.yes hz)▸?_;cases x<;>rfl
def DY.pt:PT q z.2:=by
 have g:=D.gr he hz hq hr hg;have b:=g.sz;have k:=D.t.pre.sh;have h3:=D.t.ms;have h:z.2.tr.length=p.2.1.tr.length+1:=by
  show(D.yes hz)▸?_;ext x
  · change (p.2.1.tr++[_]).length=_;show(JT)▸?_;rfl
  · change (p.2.1.tr++[_]).length=_;show(JT)▸?_;rfl
 have d:z.2.ms=p.2.1.ms++[e]:=g.ms;have i:z.2.fl=false:=by
  show(D.yes hz)▸?_;ext x
  · show D.t.pre.ok
  · show D.t.pre.ok
 have b:z.2.tr.length+(AM z.2.d0+AM z.2.d1)<=p.2.1.tr.length+(AM p.2.1.d0+AM p.2.1.d1):=b;have g2:=g.g D.t.pre.g0 D.t.pre.g1;have f:=g.z D.t.pre.n0 D.t.pre.n1;have f0:z.2.f0=p.2.1.f0:=g.f0;have f1:z.2.f1=p.2.1.f1:=g.f1;show⟨⟨⟨⟨g2.1,g2.2,by lia,by rw[d,JT,uN];lia⟩,f.1,f.2,by show(f0)▸?_;show D.t.pre.e0,by show(f1)▸?_;show D.t.pre.e1,by show(f0)▸?_;show D.t.pre.l0,by show(f1)▸?_;show D.t.pre.l1⟩,i,by lia⟩,(D.low he hz hq hr hg).1,by rw[d,h,JT,uN];lia,λa c j hc=>?_⟩;rw[hg.1,hg.2];show D.t.g a c (g.s0 a j) (g.s1 c hc)
def DY.rem K:IY K q z.2=IY K p.1 p.2.1:=by
 unfold IY;rw[(D.low he hz hq hr hg).2,D.box he hz hq hr hg];have eK:KG K q=KG K p.1:=by unfold KG;rw[hg.1,hg.2]
 rw[eK];change _++(E6 (KG K p.1) _++_)=_;rw[<-pj];show congrArg (· ++_) (Ye (y:=Ab p.2.1) D.bok D.f0)
def DY.w:wT q z.2+1<=wT p.1 p.2.1:=by
 have h1:=R3 (x:=x) (y:=Ab p.2.1) D.bok D.v4;have a:=Jw D.bok D.br;have h3:=(D.pt he hz hq hr hg).pos;rw[D.box he hz hq hr hg] at h3;have h1:B6 (Md x v (p.2.1.d0,p.2.1.d1))+B6 (Bv (K0 x v) (Ab p.2.1))=B6 (p.2.1.d0,p.2.1.d1):=h1;unfold wT;rw[(D.low he hz hq hr hg).2,D.box he hz hq hr hg];change _+((3 * B6 (Bv (K0 x v) (Ab p.2.1))-1)+phi (ag p.1.pa p.2.1))+1<=_;show ar_w h3 a h1
def DY.news:(z.2.n0||z.2.n1):=by
 show(D.yes hz)▸?_;ext x
 · rfl
 · change (_||true);simp
theorem DY.ppre:Fc b z.2 p.2.2.1 p.2.2.2:=⟨(D.pt he hz hq hr hg).pre,D.vs,D.one,.inl (D.news he hz hq hr hg)⟩
def DY.done {r}{s'}{x'}(E:Kc b (z.2,p.2.2.1,p.2.2.2) r s' x')(a:q={p.1 with nd:=q.nd,pa:=p.1.pa++[K0 x v]}):EP b x v p r q s' x':=by
 have c:=D.w he hz hq hr hg;have hp:=D.ph;have h:=U3 (m:=wT p.1 p.2.1) (D.pt he hz hq hr hg) E (by show(hr)▸?_;lia) (by lia);rw[D.rem he hz hq hr hg] at h;show⟨a,h,?_⟩;cases r with
 |true=>show(E.1 rfl).one
 |false=>show(E.2 rfl).one
end
def DY.ff {b x:Bool}{v:Int}{p:QS}(D:DY b x v p){e:El}{z:Bool×SS}(hz:z=AJ x (cut .le ((Ck p.2.1 e).dom x) v) (Ck p.2.1 e))(h:z.1=false){P:Prop}:P:=by
 rw[D.yes hz] at h;ext h
theorem KU (h:v'=v)(E:Kc b (s,x,v') r s' x'):Kc b (s,x,v) r s' x':=h▸E
theorem HF (h:v'=v)(E:Fc b s x v):Fc b s x v':=h.symm▸E
def I8 {p j q}{s s'}{r}(T:E7 j s r q s')(e:j={p with an:=j.an,fs:=j.fs,sc:=j.sc})(a:j.an=false):ED p s r q s':=by
 have h1:q.an=j.an:=by rw[T.same]
 have b:q.fs=j.fs:=by rw[T.same]
 have h3:q.sc=j.sc:=by rw[T.same]
 show⟨h1.trans a,?_⟩;rw[h1,b,h3,<-e];show T
end
section
open PySem PySem.W PySem.Spec PySem.Calls PyProof.Rows
def Yf (bg:Bool)(q:PS)(pt b a:Nat):AO:=.ns [("engine",.ref 6),("store",.ref 15),("brancher",.ref 4),("base",.d (.int 0)),("rest",.ref a),("path",.ref pt),("refuted",.ref b),("learner",.d nn),("goal",.d (glD q.gn q.gv)),
 ("is_begun",ba bg),("is_over",ba q.ov),("is_answered",ba q.an),("fail_limit",.d (.int 0)),("restart_unit",.d (.int 0)),("nodes",.d (.int q.nd)),("fails",.d (.int q.fs)),("restarts",.d (.int q.rs)),("since",.d (.int q.sc))]
def K2 (b bg:Bool)(q:QS)(pt c a d f mk nw:Nat):AC:=[some (.inst Ku 1),some (Yf bg q.1 pt c a),cellAt pt 2 (.tl .pth q.1.pa),cellAt c 3 (.tl .rft q.1.rf),some (.inst Bz 5),some Ya]++xq b 6 d f mk nw q.2
def nU (b:Bool):Nat:=match b with|false=>25|true=>28
def nX (b bg:Bool):Nat:=match bg with|false=>nU b|true=>nS b
def xz (b bg:Bool)(q:QS):AC:=match bg with|false=>K2 b false q 2 3 4 12 14 20 21|true=>D2 b q
def fJ (b bg:Bool)(q:QS):AC:=match bg with|false=>K2 b true q (nU b) (nU b+1) (nU b+6) (nU b+2) (nU b+3) (nU b+4) (nU b+5)++(NL q++[some (.inst Bz (nU b+7)),some Ya])|true=>GS b (nS b) q++NL q
def ub (bg:Bool)(σ:AC):QS:=match bg with|false=>(sg σ 2 3,OI σ 6 12 14 20 21)|true=>AAP σ
def Ft (bg:Bool)(σ:AC)(n:Nat):QS:=match bg with|false=>(sg σ n (n+1),OI σ 6 (n+2) (n+3) (n+4) (n+5))|true=>C5 σ n
def BE (b bg:Bool)(p:QS):List (Int×Int):=match bg with|false=>E6 (KG (CO b p.2.2.2) p.1) (p.2.1.d0,p.2.1.d1)|true=>Jx (CO b p.2.2.2) p.1 p.2.1
structure UPre (b:Bool) (p:QS):Prop where
 pre:Bu p.2.1
 ms:p.2.1.ms=[]
 pa:p.1.pa=[]
 rf:p.1.rf=[]
 w:p.2.2.1.w0/\(b->p.2.2.1.w1)
structure AAK (b bg:Bool) (p:QS):Prop where
 g:U0 p.1
 ov:p.1.ov=false
 vs:Uy b p.2.2.2
 one:One b p.2.2.1
 u:bg=false->UPre b p
 t:bg->HE p.1 p.2.1
structure Se (b bg:Bool) (p:QS) (r:Bool) (q:PS) (s':SS) (x':ES):Prop where
 g:q.gn=p.1.gn/\q.gv=p.1.gv/\q.ov=p.1.ov
 one:One b x'
 st:lB (CO b p.2.2.2) q s' r (BE b bg p) 1000
def isNone (a:AV):Bool:=Option.rec false (λv=>jJ v) (Br (Ff a) Zi)
def Ww (a:AV)(_:AC):Bool:=isNone a
abbrev RQ:=PS×SS×ES
def Wx (b bg:Bool)(post:QS->RQ->Prop):Re QS:={Q:=RQ,d:=(eX,IT,eG),res:=λZ Z=>.d nn,cells:=λp q=>fJ b bg (q.1,q.2.1,q.2.2,p.2.2.2),post:=post,ext:=λZ Z σ=>((Ft bg σ (nX b bg)).1,(Ft bg σ (nX b bg)).2.1,(Ft bg σ (nX b bg)).2.2.1),sel:=Ww}
def Kg (b bg:Bool):Spec where
 P:=QS
 d:=QN
 args:=λZ=>[.ref 0]
 cells:=xz b bg
 pre:=AAK b bg
 ext:=λZ σ=>ub bg σ
 outs:=[Wx b bg λp Z=>BE b bg p=[],
  {Q:=Bool×RQ,d:=(false,eX,IT,eG),res:=λZ q=>ba q.1,cells:=λp q=>fJ b bg (q.2.1,q.2.2.1,q.2.2.2,p.2.2.2),post:=λp q=>Se b bg p q.1 q.2.1 q.2.2.1 q.2.2.2,ext:=λZ a σ=>(rB a,(Ft bg σ (nX b bg)).1,(Ft bg σ (nX b bg)).2.1,(Ft bg σ (nX b bg)).2.2.1),sel:=yes}]
structure Gm (b bg:Bool) (p:QS) (a c:Int) (q:QS):Prop where
 g:q.1.gn=p.1.gn/\q.1.gv=p.1.gv
 rem:BE b bg p=(a,c)::Jx (CO b p.2.2.2) q.1 q.2.1
 pre:AAK b true q
def C7 (b bg:Bool):Spec where
 P:=QS
 d:=QN
 args:=λZ=>[.ref 0]
 cells:=xz b bg
 pre:=AAK b bg
 ext:=λZ σ=>ub bg σ
 outs:=[Wx b bg λp q=>BE b bg p=[]/\q.1.ov,
  {Q:=(Int×Int)×RQ,d:=((0,0),eX,IT,eG),res:=λZ q=>.d (.tup [.int q.1.1,.int q.1.2]),cells:=λp q=>fJ b bg (q.2.1,q.2.2.1,q.2.2.2,p.2.2.2),post:=λp q=>Gm b bg p q.1.1 q.1.2 (q.2.1,q.2.2.1,q.2.2.2,p.2.2.2),ext:=λZ a σ=>((rI (Ae (DH a) 0),rI (Ae (DH a) 1)),(Ft bg σ (nX b bg)).1,(Ft bg σ (nX b bg)).2.1,(Ft bg σ (nX b bg)).2.2.1),sel:=yes}]
def x3 (b bg:Bool):Nat:=match bg with|false=>nU b+9|true=>nS b+7
def fK (w:Bool)(st:Bool):AO:=match w with|false=>.ns [("self",.ref 0),("stands",ba st)]|true=>.ns [("self",.ref 0),("stands",ba st),("literal",.d .any)]
def Pk (n:Nat):AC:=match n with|0=>[]|n+1=>none::Pk n
abbrev NP:=QS×Bool
def Yg (b bg:Bool)(w:Bool)(p:NP):AC:=match bg with|false=>K2 b true p.1 (nU b+9) (nU b+10) (nU b+7) (nU b+11) (nU b+12) (nU b+13) (nU b+14)++([some (fK w p.2)]++(Pk 6++([some (.inst Bz (nU b+8)),some Ya]++NL p.1)))|true=>GS b (nS b+7) p.1++([some (fK w p.2)]++(Pk 6++NL p.1))
def fL (b:Bool)(p:NP):List (Int×Int):=match p.2 with|false=>Jx (CO b p.1.2.2.2) p.1.1 p.1.2.1|true=>IY (CO b p.1.2.2.2) p.1.1 p.1.2.1
def wN (p:NP):Nat:=match p.2 with|false=>wF p.1.1 p.1.2.1+1|true=>wT p.1.1 p.1.2.1
structure fN (v v₀:VS):Prop where
 k0:v.k0=v₀.k0
 c0:v.c0=v₀.c0
 k1:v.k1=v₀.k1
 c1:v.c1=v₀.c1
structure Gq (b:Bool) (p₀ p:NP):Prop where
 g:p.1.1.gn=p₀.1.1.gn/\p.1.1.gv=p₀.1.1.gv/\p.1.1.ov=p₀.1.1.ov
 vq:fN p.1.2.2.2 p₀.1.2.2.2
 one:One b p.1.2.2.1
 st:lB (CO b p₀.1.2.2.2) p.1.1 p.1.2.1 p.2 (fL b p₀) 1000
def Me (b bg:Bool):Hw where
 P:=NP
 d:=(QN,false)
 n:=x3 b bg
 cells:=Yg b bg
 inv:=Gq b
 meas:=wN
 ext:=λZ σ=>(Ft bg σ (x3 b bg),rB (rF (rO σ (nX b bg)) "stands"))
 alt:=λσ=>FH σ (nX b bg) "literal"
 more:=λσ=>isNone (rF (rO σ (nX b bg)) "stands")
def fO (b bg:Bool)(line:Nat):Option Hk:=Bool.rec none (some (.two (Me b bg))) (Nat.beq line 1509)
def pB (b:Bool)(x:Bool)(post:SS->Prop):Re QS:={Q:=Unit,d:=(),res:=λp Z=>.d (.tup [.int (CZ x),.str "<=",.int (Ac (p.2.1.dom x))]),cells:=λp Z=>D2 b p,post:=λp Z=>post p.2.1,ext:=λZ Z Z=>(),sel:=λa Z=>zM (CZ x) (Ae (DH a) 0)}
def DO (b:Bool):Spec where
 P:=QS
 d:=QN
 args:=λZ=>[.ref 0]
 cells:=D2 b
 pre:=λp=>Af p.2.1
 ext:=λZ σ=>AAP σ
 outs:=[{Q:=Unit,d:=(),res:=λZ Z=>.d nn,cells:=λp Z=>D2 b p,post:=λp Z=>AT p.2.1.d0/\AT p.2.1.d1,ext:=λZ Z Z=>(),sel:=Ww},
  pB b false λs=>AT s.d0=false,pB b true λs=>AT s.d0/\AT s.d1=false]
def lD (l:List AV)(σ:AC):Bool:=rB (rF (lA σ (Ae l 0)) "is_begun")
def dirX (l:List AV)(σ:AC):Bool×Bool:=(U1 l σ,xw l σ)
def fP (l:List AV)(σ:AC):Bool×Bool:=(U1 l σ,lD l σ)
def fQ:List (Addr×Nat×Hl):=(Fa,146,BZ EU U1)::(CV,146,BZ (λi:Bool×Bool=>Dx i.1 i.2) dirX)::fE
def zQ:=Hx fQ [(Bz,CI)] Cv Bs De
def Mf:List (Addr×Nat×Hl):=(Bp,61,BZ DO U1)::(C0,161,BZ (λi:Bool×Bool=>Kg i.1 i.2) fP)::fQ
def Zm (b bg:Bool):=Hx Mf [(Bz,CI)] (fO b bg) Bs De
section
variable {prog:Program}{w:World}{A:Around}{E:F3}{s:Shared}
def Pl {it t}{i}{items}{Q}(b:s.heap.IsTupleIter it t i)(g:s.heap.IsTuple t items)
 (h:∀x,items[i]?=some x->∀h',h'.IsTupleIter it t (i+1)->Heap.SameBut it s.heap h'->Q (.done (.ret x)) {s with heap:=h'})
 (c:items[i]?=none->A.handled=none/\∀h' e,Heap.ExtBut it s.heap h'->(∃o,h'.get? e=some o/\o.cls=.type "StopIteration")->E (.ref e) {s with heap:=h'}):
   wpAny (model prog w) A (Builtin.«tuple_iterator.__next__» ⟨[.ref it],[]⟩) Q E s:=by
  obtain⟨o,ho,hc,hd⟩:=id b;show Om g λk d Z nl f=>?_;change wpAny _ _ (field (.ref it) 0>>=_) _ _ s;show An (jG ho hd (x:=.ref t) rfl ?_);change wpAny _ _ (if (Value.ref t==Value.none)=true then _ else _) _ _ s;rw[if_neg (show ¬((Value.ref t==Value.none)) from mw)];change wpAny _ _ (field (.ref it) 1>>=_) _ _ s;show An (jG ho hd (x:=.int i 0) rfl ?_);change wpAny _ _ (seqItems? (.ref t)>>=_) _ _ s;show An (wpAny_seqItems d f ?_);cases hx:items[i]? with
  |some x=>
   dsimp only;rw[Int.toNat_natCast,hx];show An (wpAny_setField ho hd (by simp) (B9 (h x hx _ ?_ (pn ..))));show⟨_,uk _ ho (Obj.isFreed_of_fields (Obj.data_mapFields hd _)),(Obj.cls_mapFields ..).trans hc,by rw[Obj.data_mapFields hd];simp[rawInt]⟩
  |none=>
   obtain⟨j,c⟩:=c hx;dsimp only;rw[Int.toNat_natCast,hx];show An (wpAny_rule (An (wpAny_setField ho hd (by simp) ?_)));change wpAny _ _ (newExc (.type "StopIteration") []>>=_) _ _ _;show An ?_;unfold newExc newTuple;show An (jM ?_ (by size_fits));show An (m:=firstArgMember _ _) (wpAny_of_eq (a:=Value.none) (by first|rfl|(simp only[firstArgMember];rfl)) ?_);show jM ?_ (by size_fits);unfold raiseNew;show An (wpAny_handled ?_);rw[j];show An (B9 (wpAny_throw (c _ _ (((pn ..).extBut.push _).push _) ⟨_,J6 _ rfl,rfl⟩)))
def IZ {it t}{i}{items}{Q}(a:s.heap.IsTupleIter it t i)(b:s.heap.IsTuple t items)
 (c:∀x,items[i]?=some x->∀h',h'.IsTupleIter it t (i+1)->Heap.SameBut it s.heap h'->Q x {s with heap:=h'})
 (d:items[i]?=none->A.handled=none/\∀h' e,Heap.ExtBut it s.heap h'->(∃o,h'.get? e=some o/\o.cls=.type "StopIteration")->E (.ref e) {s with heap:=h'}):
   wpAny (model prog w) A (Builtin.SmallTypes.nextOf (.ref it)) Q E s:=by
  unfold Builtin.SmallTypes.nextOf;show An (wpAny_callSpecial?_slot (name:=Str.ofString "__next__") a.typeIs F.slot_tuple_iterator_next
   (uM F.slot_tuple_iterator_next a.typeIs F.entry_tuple_iterator_next (Pl a b (λx hx h' h1 f=>⟨x,rfl,B9 (c x hx h' h1 f)⟩) d) (F.args_tuple_iterator_next_1 _)))
structure Zp (h:Heap) (z TI TO i1 i2 l1 l2:Addr) (k:Nat) (xs ys:Array Value) (f a b:Value):Prop where
 z:IsZip h z TI TO f
 TI:IsPair h TI (.ref i1) (.ref i2)
 TO:IsPair h TO a b
 i1:h.IsTupleIter i1 l1 k
 i2:h.IsTupleIter i2 l2 k
 l1:h.IsTuple l1 xs
 l2:h.IsTuple l2 ys
def Yh {z TI TO i1 i2 l1 l2:Addr}{k:Nat}{xs ys:Array Value}{x y a b:Value}{Q:F3}(D:ZipApart z TI TO i1 i2 l1 l2)(Z:Zp s.heap z TI TO i1 i2 l1 l2 k xs ys .none a b)(hx:xs[k]?=some x)(hy:ys[k]?=some y)
 (hQ:∀h',Zp h' z TI TO i1 i2 l1 l2 (k+1) xs ys (rawInt s.heap.objs.size) x y->IsPair h' s.heap.objs.size x y->h'.objs.size=s.heap.objs.size+1->
   (∀c o,c≠z->c≠TO->c≠i1->c≠i2->s.heap.get? c=some o->h'.get? c=some o)->Q (.ref s.heap.objs.size) {s with heap:=h'}):
 wpAny (model prog w) A (Builtin.«zip.__next__» ⟨[.ref z],[]⟩) (λfin s'=>∃v,fin=.done (.ret v)/\Q v s') E s:=by
 change wpAny _ _ (field (.ref z) 2>>=_) _ _ _;show An (jG Z.z rfl (x:=.bool false) rfl ?_);change wpAny _ _ (field (.ref z) 3>>=_) _ _ _;show An (jG Z.z rfl (x:=.ref TI) rfl ?_);show An (wpAny_seqItems Z.TI rfl ?_);change wpAny _ _ (Builtin.SmallTypes.ownedTupleIsFree (.ref z)>>=_) _ _ _;show An ?_;unfold Builtin.SmallTypes.ownedTupleIsFree;show An (jG Z.z rfl (x:=.none) rfl (B9 ?_));rw[if_pos rfl];show An (wpAny_rule ?_);show An (jG Z.z rfl (x:=.ref TO) rfl ?_);show An (wpAny_setField_rec Z.z (by simp) λP q f=>?_)
 replace q:IsZip P z TI TO .ellipsis:=q
 show An ?_;simp only[List.zipIdx_cons,List.zipIdx_nil,nA,mz];show An (An (wpAny_onRaise ?_));change wpAny _ _ (Builtin.SmallTypes.nextOf (.ref i1)>>=_) _ _ _;show An (IZ (Z.i1.extBut f.extBut D.i1z) (Z.l1.extBut f.extBut D.l1z) (λx' R S J g=>B9 ?_) λe=>by rw[hx] at e;ext e);rw[hx] at R;ext R;have C:IsPair S TO a b:=g.extBut _ _ D.TOi1 (f.extBut _ _ D.TOz Z.TO);show An (wpAny_seqItems C rfl ?_);show An (wpAny_updateSeq_pair C λT n h=>?_)
 replace n:IsPair T TO x b:=n
 show An (wpAny_letGo (B9 ?_));show An (An (wpAny_onRaise ?_));change wpAny _ _ (Builtin.SmallTypes.nextOf (.ref i2)>>=_) _ _ _;show An (IZ (((Z.i2.extBut f.extBut D.i2z).extBut g.extBut D.i12.symm).extBut h.extBut D.TOi2.symm) (((Z.l2.extBut f.extBut D.l2z).extBut g.extBut D.l2i1).extBut h.extBut D.l2TO)
  (λy' U V K j=>B9 ?_) λe=>by rw[hy] at e;ext e)
 rw[hy] at U;ext U;have F:IsPair V TO x b:=j.extBut _ _ D.TOi2 n;show An (wpAny_seqItems F rfl ?_);show An (wpAny_updateSeq_pair F λd i l=>?_)
 replace i:IsPair d TO x y:=i
 show An (wpAny_letGo (B9 (B9 ?_)));show An (wpAny_seqItems i rfl ?_);show An (wpAny_newTuple ?_);have W:d.objs.size=s.heap.objs.size:=by rw[l.1,j.1,h.1,g.1,f.1]
 have L:∀c o,c≠z->c≠TO->c≠i1->c≠i2->s.heap.get? c=some o->d.get? c=some o:=λc o c1 c2 c3 c4 e=>l.extBut _ _ c2 (j.extBut _ _ c4 (h.extBut _ _ c2 (g.extBut _ _ c3 (f.extBut _ _ c1 e))));have G:IsZip d z TI TO .ellipsis:=l.extBut _ _ D.TOz.symm (j.extBut _ _ D.i2z.symm (h.extBut _ _ D.TOz.symm (g.extBut _ _ D.i1z.symm q)));have M:d.IsTupleIter i1 l1 (k+1):=((J.extBut h.extBut D.TOi1.symm).extBut j.extBut D.i12).extBut l.extBut D.TOi1.symm;have N:d.IsTupleIter i2 l2 (k+1):=K.extBut l.extBut D.TOi2.symm;have I:z<d.objs.size:=Oh G;change wpAny _ _ (Builtin.SmallTypes.ownedTupleHandOut (.ref z) (.ref d.objs.size)>>=_) _ _ _;show An ?_;unfold Builtin.SmallTypes.ownedTupleHandOut;have O:IsZip (d.push {cls:=.type "tuple",data:=.seq #[x,y]}) z TI TO .ellipsis:=JQ _ G;show An (wpAny_setField_rec O (by simp) λX t u=>?_)
 replace t:IsZip X z TI TO (rawInt d.objs.size):=t
 show wpAny_setField_rec t (by simp) λm p B=>?_
 replace p:IsZip m z TI TO (rawInt d.objs.size):=p
 have up:∀c o,c≠z->d.get? c=some o->m.get? c=some o:=λc o c1 e=>B.extBut _ _ c1 (u.extBut _ _ c1 (JQ _ e));have H:IsPair m d.objs.size x y:=B.extBut _ _ (Nat.ne_of_gt I) (u.extBut _ _ (Nat.ne_of_gt I) (J6 _ rfl));have Y:m.objs.size=d.objs.size+1:=by rw[B.1,u.1,pu]
 rw[W] at p H Y;show B9 ⟨_,rfl,?_⟩;change Q (.ref d.objs.size) _;rw[W];have keep:∀c o,c≠z->c≠TO->c≠i1->c≠i2->s.heap.get? c=some o->m.get? c=some o:=λc o c1 c2 c3 c4 e=>up c o c1 (L c o c1 c2 c3 c4 e);show hQ m ⟨p,keep _ _ D.TIz D.TITO D.TIi1 D.TIi2 Z.TI,up _ _ D.TOz i,AH M λo ho r=>⟨o,up _ o D.i1z ho,r⟩,AH N λo ho r=>⟨o,up _ o D.i2z ho,r⟩,
  AH Z.l1 λo ho r=>⟨o,keep _ o D.l1z D.l1TO D.l1i1 D.l1i2 ho,r⟩,AH Z.l2 λo ho r=>⟨o,keep _ o D.l2z D.l2TO D.l2i1 D.l2i2 ho,r⟩⟩ H Y keep
def fR {z TI TO i1 i2 l1 l2}{k}{xs u}{a b}{Q}(t:A.handled=none)(D:ZipApart z TI TO i1 i2 l1 l2)(Z:Zp s.heap z TI TO i1 i2 l1 l2 k xs u .none a b)(hx:xs[k]?=none)
 (v:∀h' e,(∀c o,c≠z->c≠TO->c≠i1->c≠i2->s.heap.get? c=some o->h'.get? c=some o)->(∃o,h'.get? e=some o/\o.cls=.type "StopIteration")->E (.ref e) {s with heap:=h'}):
   wpAny (model prog w) A (Builtin.«zip.__next__» ⟨[.ref z],[]⟩) Q E s:=by
  change wpAny _ _ (field (.ref z) 2>>=_) _ _ _;show An (jG Z.z rfl (x:=.bool false) rfl ?_);change wpAny _ _ (field (.ref z) 3>>=_) _ _ _;show An (jG Z.z rfl (x:=.ref TI) rfl ?_);show An (wpAny_seqItems Z.TI rfl ?_);change wpAny _ _ (Builtin.SmallTypes.ownedTupleIsFree (.ref z)>>=_) _ _ _;show An ?_;unfold Builtin.SmallTypes.ownedTupleIsFree;show An (jG Z.z rfl (x:=.none) rfl (B9 ?_));rw[if_pos rfl];show An (wpAny_rule ?_);show An (jG Z.z rfl (x:=.ref TO) rfl ?_);show An (wpAny_setField_rec Z.z (by simp) λl d f=>?_)
  replace d:IsZip l z TI TO .ellipsis:=d
  show An ?_;simp only[List.zipIdx_cons,List.zipIdx_nil,nA,mz];show An (An (wpAny_onRaise ?_));change wpAny _ _ (Builtin.SmallTypes.nextOf (.ref i1)>>=_) _ _ _;show An (IZ (Z.i1.extBut f.extBut D.i1z) (Z.l1.extBut f.extBut D.l1z) (λx' m=>by rw[hx] at m;ext m) λY=>⟨t,λn e g he=>?_⟩);obtain⟨y,j,p⟩:=he;have h:IsZip n z TI TO .ellipsis:=g _ _ D.i1z.symm d;have r:e≠z:=λx=>by subst x;rw[h] at j;ext j;simp at p
  show wpAny_setField_rec h (by simp) λq Y i=>v q e (λc o c1 Y B Y x=>i.extBut _ _ c1 (g _ _ B (f.extBut _ _ c1 x))) ⟨y,i.extBut _ _ r j,p⟩
def Jy {z TI TO i1 i2 l1 l2}{k}{xs j}{x y a b}{Q}(D:ZipApart z TI TO i1 i2 l1 l2)(Z:Zp s.heap z TI TO i1 i2 l1 l2 k xs j .none a b)(hx:xs[k]?=some x)(f:j[k]?=some y)
 (g:∀h',Zp h' z TI TO i1 i2 l1 l2 (k+1) xs j (rawInt s.heap.objs.size) x y->IsPair h' s.heap.objs.size x y->h'.objs.size=s.heap.objs.size+1->
 (∀c o,c≠z->c≠TO->c≠i1->c≠i2->s.heap.get? c=some o->h'.get? c=some o)->Q (some (.ref s.heap.objs.size)) {s with heap:=h'}):
   wpAny (model prog w) A (pyNext (.ref z)) Q E s:=by
  have d:s.TypeIs (.ref z) "zip":=⟨_,Z.z,rfl⟩
  unfold pyNext;show An (wpAny_attempt (wpAny_callSpecial?_slot (name:=Str.ofString "__next__") d F.slot_zip_next
   (uM F.slot_zip_next d F.entry_zip_next (Yh D Z hx f λh' a1 h i l=>B9 (g h' a1 h i l)) (F.args_zip_next_1 _))))
def Kh {z TI TO i1 i2 l1 l2}{k}{xs j}{a b}{Q}(f:A.handled=none)(D:ZipApart z TI TO i1 i2 l1 l2)(Z:Zp s.heap z TI TO i1 i2 l1 l2 k xs j .none a b)(hx:xs[k]?=none)
 (g:∀h',(∀c o,c≠z->c≠TO->c≠i1->c≠i2->s.heap.get? c=some o->h'.get? c=some o)->Q none {s with heap:=h'}):wpAny (model prog w) A (pyNext (.ref z)) Q E s:=by
  have d:s.TypeIs (.ref z) "zip":=⟨_,Z.z,rfl⟩
  unfold pyNext;show An (wpAny_attempt (wpAny_callSpecial?_slot (name:=Str.ofString "__next__") d F.slot_zip_next
   (uM F.slot_zip_next d F.entry_zip_next (fR f D Z hx λh' e hk he=>?_) (F.args_zip_next_1 _))))
  obtain⟨o,ho,hc⟩:=he;show An (wpAny_isInstance (T:="StopIteration") (b:=true) ⟨o,ho,hc⟩ isSubtype_stop (B9 (g _ hk)))
theorem fS l1 l2 xs u:
 Meets (Builtin.«zip.__new__» ⟨[.type "zip",.ref l1,.ref l2],[]⟩) (λZ R s=>s.heap.IsTuple l1 xs/\s.heap.IsTuple l2 u/\
  ∀h',(∀c o,s.heap.get? c=some o->h'.get? c=some o)->Zp h' (s.heap.objs.size+4) (s.heap.objs.size+2) (s.heap.objs.size+3) s.heap.objs.size (s.heap.objs.size+1) l1 l2 0 xs u .none .none .none->R (.ok (.ret (.ref (s.heap.objs.size+4)))) {s with heap:=h'}):=
 .of_wp λprog w A R s h=>by
  obtain⟨hp,g,d,tk,os⟩:=s;obtain⟨j,k,h⟩:=h;have B:=sub_zip;have m:Heap.IsTuple (Shared.heap ⟨hp,g,d,tk,os⟩) l1 xs:=j;have n:Heap.IsTuple (Shared.heap ⟨hp.push {cls:=.type "tuple_iterator",data:=.fields #[.ref l1,.int 0 0]},g,d,tk,os⟩) l2 u:=Heap.IsTuple.push k _
  wp_walk using wpAny_pyIter_tuple m,wpAny_pyIter_tuple n
  show⟨_,rfl,?_⟩;have s1:∀(h:Heap) (o:Obj),(h.push o).objs.size=h.objs.size+1:=λZ Z=>pu ..;have fin:∀(h1 b h3 i a:Heap),h1=hp.push {cls:=.type "tuple_iterator",data:=.fields #[.ref l1,.int 0 0]}->b=h1.push {cls:=.type "tuple_iterator",data:=.fields #[.ref l2,.int 0 0]}->h3=b.push {cls:=.type "tuple",data:=.seq #[.ref hp.objs.size,.ref h1.objs.size]}->
   i=h3.push {cls:=.type "tuple",data:=.seq #[.none,.none]}->a=i.push {cls:=.type "zip",data:=.fields #[.none,.bool false,.bool false,.ref b.objs.size,.ref h3.objs.size]}->R (.ok (.ret (.ref i.objs.size))) ⟨a,g,d,tk,os⟩:=by
   intro h1 b h3 i a e1 p q t C;have v:h1.objs.size=hp.objs.size+1:=by rw[e1,s1]
   have y:b.objs.size=hp.objs.size+2:=by rw[p,s1,v]
   have z:h3.objs.size=hp.objs.size+3:=by rw[q,s1,y]
   have D:i.objs.size=hp.objs.size+4:=by rw[t,s1,z]
   have E:∀c o,i.get? c=some o->a.get? c=some o:=λc o x=>by rw[C];show JQ _ x
   have F:∀c o,h3.get? c=some o->a.get? c=some o:=λc o x=>E c o (by rw[t];show JQ _ x);have G:∀c o,b.get? c=some o->a.get? c=some o:=λc o x=>F c o (by rw[q];show JQ _ x);have H:∀c o,h1.get? c=some o->a.get? c=some o:=λc o x=>G c o (by rw[p];show JQ _ x);have k1:∀c o,hp.get? c=some o->a.get? c=some o:=λc o x=>H c o (by rw[e1];show JQ _ x);have l:∀(h h':Heap) (o:Obj),h'=h.push o->o.isFreed=false->h'.get? h.objs.size=some o:=λh h' o e f=>by rw[e];show J6 _ f
   have I:=l _ _ _ C rfl;have J:=E _ _ (l _ _ _ t rfl);have K:=F _ _ (l _ _ _ q rfl);have g2:=G _ _ (l _ _ _ p rfl);have g1:=H _ _ (l _ _ _ e1 rfl);rw[y,z,D] at I;rw[z] at J;rw[v,y] at K;rw[v] at g2;rw[D];show h a k1 ⟨I,K,J,⟨_,g1,rfl,rfl⟩,⟨_,g2,rfl,rfl⟩,AH j λo ho r=>⟨o,k1 _ _ ho,r⟩,AH k λo ho r=>⟨o,k1 _ _ ho,r⟩⟩
  show fin _ _ _ _ _ rfl rfl rfl rfl rfl
theorem Yi {l1 l2}{xs j}{Q}(a:s.heap.IsTuple l1 xs)(b:s.heap.IsTuple l2 j)
 (h:∀h',(∀c o,s.heap.get? c=some o->h'.get? c=some o)->Zp h' (s.heap.objs.size+4) (s.heap.objs.size+2) (s.heap.objs.size+3) s.heap.objs.size (s.heap.objs.size+1) l1 l2 0 xs j .none .none .none->Q (.ref (s.heap.objs.size+4)) {s with heap:=h'}):
   wpAny (model prog w) A (call (.type "zip") [.ref l1,.ref l2]) Q E s:=
  callType_new F.called_zip ∅ (F.typeCall_zip_2 _ _) (F.newCall_zip_2 _ _) (λobj=>F.args_object_init_3 obj _ _) F.entry_zip_new
   (fS l1 l2 xs j) ⟨a,b,λh' k Z=>⟨⟨_,Z.z,rfl⟩,h h' k Z⟩⟩
end
def St.on (S:St)(h:Heap)(k:∀b o,S.h₀.get? b=some o->h.get? b=some o):St:={prog:=S.prog,w:=S.w,h₀:=h,mg:=S.mg,mb:=S.mb,os:=S.os,g:=S.g.keeps k,b:=S.b.keeps k,nl:=S.nl.keeps k,md:=let ⟨o,ho⟩:=S.md;⟨o,k _ _ ho⟩}
theorem St.grows S {h}(k:∀b o,S.h₀.get? b=some o->h.get? b=some o):Grows S (S.on h k):=⟨rfl,rfl,rfl,rfl,k⟩
def U5 (a:AV):Bool:=match a with
 |.ref _=>true
 |.d t=>(match t with|.v _=>true|.int _=>true|_=>false)
 |.mt _=>false
def Pm (o:Option AO):Bool:=Option.rec true (λo=>o.nf.vals.all U5) o
def fT (e:U5 a)(r:Cg γ h a v):Cg γ h' a v:=by
 cases a with
 |ref=>show r
 |d t=>cases t<;>first|show r|ext e
 |mt=>ext e
def Yj:∀ {vs:List Value},l.all U5->AY γ h l vs->AY γ h' l vs:=by
 induction l with
 |nil=>show λZ r=>r
 |cons a l ih=>
  rintro vs e ⟨v,b,rfl,r,rs⟩
  have e1:=aL e;have c:=aR e;show⟨v,b,rfl,fT e1 r,ih c rs⟩
def FC.over {S:St}{H:Heap}{k0}{γ:List Addr}{σ:AC}{s:Shared}(R:FC (S.on H k0) γ σ s){h':Heap}(M:Addr->Prop)(hk:∀b o,¬M b->s.heap.get? b=some o->h'.get? b=some o)
 (g:∀b,M b->b ∉ γ/\S.h₀.get? b=none) (hn:σ.all Pm):∃k,FC (S.on (wo h' γ) k) γ σ {s with heap:=h'}:=by
 have d:∀b,b ∉ γ->γ.contains b=false:=λb m=>by
  cases q:γ.contains b with
  |false=>rfl
  |true=>show absurd (LK.mp q) m
 show⟨λb o e=>?_,λb o e=>HV e,R.len,λi ao a e1 c=>?_,λa m=>N6 _ (LK.mpr m),R.apart,R.gens,R.os⟩
 · have m:b ∉ γ:=λm=>by have c:H.get? b=none:=R.fresh b m;rw[k0 b o e] at c;ext c
   rw[Dq _ (d b m)];show hk b o (λq=>by rw[(g b q).2] at e;ext e) (R.keep b o (k0 b o e))
 · obtain⟨o,vs,ho,r,j⟩:=R.cells i ao a e1 c;have hl:=e1.lt;have h:=QL.mp hn _ (Zu hl);have f:σ[i]=some ao:=M1 ((FA hl).symm.trans e1);rw[f] at h;show⟨o,vs,hk a o (λq=>(g a q).1 (uJ c)) ho,r,Yj h j⟩
def lE (k:∀o,x=some o->y=some o)(e:y=none):x=none:=by
 cases x with
 |none=>rfl
 |some o=>show nomatch (k o rfl).symm.trans e
theorem FC.less (R:FC (S.on H k0) γ σ s):FC S γ σ s:=
 ⟨λb o e=>R.keep b o (k0 b o e),R.len,R.cells,λa m=>lE (k0 a) (R.fresh a m),R.apart,R.gens,R.os⟩
def x4 (k:AC->Prop)(fl:FV)(σ:AC):Prop:=match fl with|.next=>k σ|_=>False
def sr (ih:Ih)(fr:Fr)(t:Expr)(b:List Stmt)(its:List (Dt×Dt))(σ:AC)(k:AC->Prop):Prop:=match its with|[]=>As (σ.all Pm) (k σ)|x::its=>As (σ.all Pm) (ih fr (.asg t (.d (.tup [x.1,x.2]))) σ λZ σ=>ih fr (.ss b) σ (x4 λσ=>sr ih fr t b its σ k))
theorem Zp.of {h h'}{z TI TO i1 i2 l1 l2}{k}{xs j}{f f' a b}(Z:Zp h z TI TO i1 i2 l1 l2 k xs j f a b)(hz:IsZip h' z TI TO f')(e:∀c o,c≠z->(∃o,h.get? c=some o)->h.get? c=some o->h'.get? c=some o)(D:ZipApart z TI TO i1 i2 l1 l2):
 Zp h' z TI TO i1 i2 l1 l2 k xs j f' a b:=
 ⟨hz,e _ _ D.TIz ⟨_,Z.TI⟩ Z.TI,e _ _ D.TOz ⟨_,Z.TO⟩ Z.TO,AH Z.i1 λo ho r=>⟨o,e _ _ D.i1z ⟨_,ho⟩ ho,r⟩,AH Z.i2 λo ho r=>⟨o,e _ _ D.i2z ⟨_,ho⟩ ho,r⟩,
   AH Z.l1 λo ho r=>⟨o,e _ _ D.l1z ⟨_,ho⟩ ho,r⟩,AH Z.l2 λo ho r=>⟨o,e _ _ D.l2z ⟨_,ho⟩ ho,r⟩⟩
def x6 (t:Dt)(v:Value):=∀h,Ah h t v
section
variable {S:St}{T:Hj}{Z:Jd}{K:Frag}{A:Around}{n:Nat}
def lF (N:BX K S T)(O:∀S',Grows S S'->CB K S' Z)(hr:Ay A n){fr:Fr}{env:Env}{t:Expr}{b:List Stmt}{p:List Expr}(P:O9 t=some p){z TI TO i1 i2 l1 l2:Addr}(D:ZipApart z TI TO i1 i2 l1 l2)
 (J:∀b,(b=z∨b=TO∨b=i1∨b=i2)->S.h₀.get? b=none) {xs E:Array Value} {k:AC->Prop} {Q:Result->Shared->Prop} (q:∀H k0 (c:At (S.on H k0)),k c.σ->AR c.γ fr env->Q (.ok .next) c.s):
 ∀(its:List (Dt×Dt)) (j:Nat),xs.size=j+its.length->(∀i x,its[i]?=some x->∃u v,xs[j+i]?=some u/\E[j+i]?=some v/\x6 x.1 u/\x6 x.2 v)->
  ∀H k0 (c:At (S.on H k0)) a C,Zp H z TI TO i1 i2 l1 l2 j xs E .none a C->AR c.γ fr env->sr (run T Z n) fr t b its c.σ k->codeAny S.mdl A (.forLoop t (.ref z) b [] env) Q c.s:=by
 obtain⟨kk,pp,rfl⟩:=KL P;intro its
 induction its with
 |nil=>
  intro j F hi H k0 c a C d s h;obtain⟨hn,h⟩:=F5 h;have Jv:∀x o,H.get? x=some o->x ∉ c.γ:=λx o e m=>by have w:H.get? x=none:=c.R.fresh x m;rw[e] at w;ext w
  show Ly (Kh (a:=a) (b:=C) hr.handled D (d.of (c.R.keep _ _ d.z) (λx o _ _ e=>c.R.keep x o e) D) (Array.getElem?_eq_none (by rw[F];show QJ _)) λh' hk=>?_);obtain⟨k1,R1⟩:=c.R.over (λb=>b=z∨b=TO∨b=i1∨b=i2) (h':=h') (λx o m e=>hk x o (λy=>m (.inl y)) (λy=>m (.inr (.inl y))) (λy=>m (.inr (.inr (.inl y)))) (λy=>m (.inr (.inr (.inr y)))) e)
   (λx m=>⟨by
     rcases m with rfl|rfl|rfl|rfl
     · show Jv _ _ d.z
     · show Jv _ _ d.TO
     · obtain⟨o,ho,_⟩:=d.i1;show Jv _ _ ho
     · obtain⟨o,ho,_⟩:=d.i2;show Jv _ _ ho,J x m⟩) hn
  show wpAny_execs_nil (q _ k1 ⟨_,_,_,R1⟩ h s)
 |cons x its ih=>
  intro j F hi H k0 c a C d s h;obtain⟨hn,h⟩:=F5 h;have Jv:∀x o,H.get? x=some o->x ∉ c.γ:=λx o e m=>by have w:H.get? x=none:=c.R.fresh x m;rw[e] at w;ext w
  obtain⟨u,v,R,hv,U,V⟩:=hi 0 x rfl;show Ly (Jy (a:=a) (b:=C) D (d.of (c.R.keep _ _ d.z) (λx o _ _ e=>c.R.keep x o e) D) R hv λh' L W X hk=>?_);show wpAny_letOwnedTupleGo_zip L.z λg B l=>?_;have G:c.s.heap.objs.size≠z:=Nat.ne_of_gt (Oh (c.R.keep _ _ d.z));have Z2:Zp g z TI TO i1 i2 l1 l2 (j+1) xs E .none u v:=L.of B (λx o m _ e=>l.extBut _ _ m e) D;have I:IsPair g c.s.heap.objs.size u v:=l.extBut _ _ G W;obtain⟨k1,R1⟩:=c.R.over (λb=>b=z∨b=TO∨b=i1∨b=i2) (h':=g) (λx o m e=>l.extBut _ _ (λy=>m (.inl y)) (hk x o (λy=>m (.inl y)) (λy=>m (.inr (.inl y))) (λy=>m (.inr (.inr (.inl y)))) (λy=>m (.inr (.inr (.inr y)))) e))
   (λx m=>⟨by
     rcases m with rfl|rfl|rfl|rfl
     · show Jv _ _ d.z
     · show Jv _ _ d.TO
     · obtain⟨o,ho,_⟩:=d.i1;show Jv _ _ ho
     · obtain⟨o,ho,_⟩:=d.i2;show Jv _ _ ho,J x m⟩) hn
  have Z3:Zp (wo g c.γ) z TI TO i1 i2 l1 l2 (j+1) xs E .none u v:=by
   have up:∀x o,x ∉ c.γ->g.get? x=some o->(wo g c.γ).get? x=some o:=λx o m e=>by
    rw[Dq];show e;cases q:c.γ.contains x with
    |false=>rfl
    |true=>show absurd (LK.mp q) m
   have n1:=Jv _ _ d.z;have Y:=Jv _ _ d.TI;have n3:=Jv _ _ d.TO;obtain⟨_,e4,_⟩:=d.i1;have n4:=Jv _ _ e4;obtain⟨_,e5,_⟩:=d.i2;have n5:=Jv _ _ e5;obtain⟨_,e6,_⟩:=d.l1;have n6:=Jv _ _ e6;obtain⟨_,e7,_⟩:=d.l2;have n7:=Jv _ _ e7;show⟨up _ _ n1 Z2.z,up _ _ Y Z2.TI,up _ _ n3 Z2.TO,AH Z2.i1 λo ho r=>⟨o,up _ _ n4 ho,r⟩,AH Z2.i2 λo ho r=>⟨o,up _ _ n5 ho,r⟩,AH Z2.l1 λo ho r=>⟨o,up _ _ n6 ho,r⟩,AH Z2.l2 λo ho r=>⟨o,up _ _ n7 ho,r⟩⟩
  let S1:=S.on (wo g c.γ) k1
  have M:Good S1 n (run T Z n):=Eu (N.grow (S.grows k1)) (O _ (S.grows k1)) n
  let c1:At S1:=⟨_,_,_,R1⟩
  have rv:c1.VR (.d (.tup [x.1,x.2])) (.ref c.s.heap.objs.size):=⟨_,_,rfl,⟨_,I,rfl,_,rfl⟩,u,[v],rfl,U _,v,[],rfl,V _,rfl⟩
  show M.asg (c:=c1) hr s h rv _ _ λ_ c2 _ h2 l2 _=>M.st hr (s.at l2) h2 _ _ λfl c3 f h3 l3 rf=>?_;cases fl with
  |next=>
   ext rf;show ih (j+1) (by rw[F,Zh];lia) (λi y e=>by have:=hi (i+1) y e;rwa [show j+(i+1)=j+1+i from by lia] at this) _ k1 c3 u v Z3 (s.at (l2.trans l3)) h3
  |_=>show h3.elim
end
def pC (x:Stmt):Option (Expr×Expr×List Stmt):=match x with|.For t it b o _=>Bool.rec none (some (t,it,b)) o.isEmpty|_=>none
def su {α:Type}{p:α->Prop}{x:α}{b}(h:b=true->p x):Option.rec True p (Bool.rec none (some x) b:Option α):=by
 cases b with
 |true=>show h rfl
 |false=>trivial
def Wy {b}{P}(h:Bool.rec True P b)(e:b):P:=by subst e;show h
def U6 {s}{x}(e:pC s=some x):∃p,s=.For x.1 x.2.1 x.2.2 [] p:=by
 show Ap (p:=λx=>∃p,s=.For x.1 x.2.1 x.2.2 [] p) ?_ e;cases s with
 |For t it b o p=>show su λh=>⟨p,by rw[NU.mp h]⟩
 |_=>trivial
def pD (e:Expr):Bool:=match e with|.Name _ _=>true|_=>false
def fU {f}(h:pD f):∃y p,f=.Name y p:=by
 show Wy (P:=∃y p,f=.Name y p) ?_ h;cases f with
 |Name y p=>show⟨y,p,rfl⟩
 |_=>trivial
def Wz (e:Expr):Option (Expr×List Expr):=match e with|.Call f as a _=>Bool.rec none (some (f,as)) (a.isEmpty&&pD f)|_=>none
def Pn {e}{x}(h:Wz e=some x):∃y p a,x.1=.Name y p/\e=.Call x.1 x.2 [] a:=by
 show Ap (p:=λx=>∃y p a,x.1=.Name y p/\e=.Call x.1 x.2 [] a) ?_ h;cases e with
 |Call f as c p=>
  show su λhb=>by
   obtain⟨h1,b⟩:=DQ.mp hb;obtain⟨y,a,rfl⟩:=fU b;rw[NU.mp h1];show⟨y,a,p,rfl,rfl⟩
 |_=>trivial
def isZ (f:X1):Bool:=match f with
 |.p p=>(match p with|.zip=>true|_=>false)
 |_=>false
def x7 (ih:Ih)(fr:Fr)(w1 b:Addr)(its:List (Dt×Dt))(s2:Stmt)(l:List Stmt)(k:FV->AC->Prop)(σ:AC):Prop:=
 AD (pC s2) λx=>AD (O9 x.1) λZ=>AD (Wz x.2.1) λy=>ih fr (.e y.1) σ λa σ=>AD (WI a) λf=>As (isZ f&&(Cq y.2&&!y.2.isEmpty))
     (ih fr (.es y.2) σ λas σ=>as=[.d (.v (.ref w1)),.d (.v (.ref b))]/\As (σ.all Option.isSome&&σ.all Pm) (sr ih fr x.1 x.2.2 its σ λσ=>ih fr (.ss l) σ k))
def pE (ih:Ih)(fr:Fr)(w1 a:Addr)(its:List (Dt×Dt))(l:List Stmt)(σ:AC)(k:FV->AC->Prop):Prop:=match l with|[]=>False|s1::l=>match l with|[]=>False|s2::l=>ih fr (.s1 s1) σ (x4 (x7 ih fr w1 a its s2 l k))
def Yk {n a b}(h1:a<n)(d:b<n):ZipApart (n+4) (n+2) (n+3) n (n+1) a b:=by
 have k:∀x y:Nat,x<y-> @Ne Addr x y:=λx y h e=>by ext e;show Zq _ h
 have c:∀x y:Nat,y<x-> @Ne Addr x y:=λx y h e=>by ext e;show Zq _ h
 constructor<;>first|show k _ _ (by lia)|show c _ _ (by lia)
section
variable {S:St}{T:Hj}{Z:Jd}{K:Frag}{A:Around}{n:Nat}
def fV (B:BX K S T)(F:∀S',Grows S S'->CB K S' Z)(hr:Ay A n){fr:Fr}{env}{w1 j}{xs C}(h1:S.h₀.IsTuple w1 xs)(U:S.h₀.IsTuple j C){its}(hj:xs.size=its.length)
 (hi:∀(i:Nat) x,its[i]?=some x->∃u v,xs[i]?=some u/\C[i]?=some v/\x6 x.1 u/\x6 x.2 v) {l} {k} {c:At S} (z:AR c.γ fr env) (h:pE (run T Z n) fr w1 j its l c.σ k) {E} {Q}
 (q:∀H k0 (c':At (S.on H k0)) fl f,k fl c'.σ->c'.FR fl f->Q f c'.s):wpAny S.mdl A (execs l env) Q E c.s:=by
  have G:Good S n (run T Z n):=Eu B (F S (.refl S)) n;cases l with
  |nil=>show h.elim
  |cons s1 l=>cases l with
   |nil=>show h.elim
   |cons s2 l=>
    show wpAny_execs_cons (G fr (.s1 s1) _ c h A hr env z E _ λfl c1 f g1 l1 rf=>?_);cases fl with
    |next=>
     ext rf;have g1:x7 (run T Z n) fr w1 j its s2 l k c1.σ:=g1;show AA g1 λx ex g2=>AA g2 λV et g3=>AA g3 λy ey W=>?_;obtain⟨pf,I⟩:=U6 ex;obtain⟨nm,p,p',e1,X⟩:=Pn ey;rw[e1] at W X;rw[I,X];show wpAny_execs_cons (wpAny_For (Call_ (G.ev hr (z.at l1) W _ _ λa c2 va g5 l2 ra=>AA g5 λf I g6=>AG g6 λhz Y=>?_)));obtain⟨hz,t⟩:=DQ.mp hz;obtain⟨t,w⟩:=DQ.mp t;have hf:va=.type "zip":=by
      show(Je I ra)▸?_;cases f with
      |p p=>cases p<;>first|rfl|ext hz
      |_=>ext hz
     subst hf;cases ea:y.2 with
     |nil=>rw[ea] at w;ext w
     |cons z0 zs=>
      rw[ea] at Y t;show GD (Fl t) (FY t (G.evs hr ((z.at l1).at l2) Y _ _ λas d vs g8 l3 rs=>⟨⟨.machine,.inr rfl,λQ E q=>B9 q⟩,?_⟩));obtain⟨rfl,J⟩:=g8;obtain⟨s,J⟩:=F5 J;obtain⟨s,L⟩:=DQ.mp s;show F2 rs λv1 ws z1 z2 v2 a0 z3 z4 z5=>?_;subst z1;subst z2;subst z3;subst z4;subst z5;have t1:d.h.IsTuple w1 xs:=AH h1 λo ho r=>⟨o,d.R.keep _ _ ho,r⟩
      have t2:d.h.IsTuple j C:=AH U λo ho r=>⟨o,d.R.keep _ _ ho,r⟩
      have M:w1<d.h.objs.size:=AH t1 λo ho _=>Oh ho;have N:j<d.h.objs.size:=AH t2 λo ho _=>Oh ho;have n1:w1 ∉ d.γ:=λm=>AH h1 λo ho _=>nomatch (d.R.fresh _ m).symm.trans ho;have n2:j ∉ d.γ:=λm=>AH U λo ho _=>nomatch (d.R.fresh _ m).symm.trans ho;have new:∀b,d.h.objs.size<=b->S.h₀.get? b=none:=λb hb=>by
       cases e:S.h₀.get? b with
       |none=>rfl
       |some o=>show absurd (Oh (d.R.keep b o e)) (Nat.not_lt.mpr hb)
      have Jv:∀b,d.h.objs.size<=b->b ∉ d.γ:=λb hb m=>by
       obtain⟨i,hi⟩:=ul.mp m;have hl:i<d.σ.length:=d.R.len▸(nC.mp hi).1;obtain⟨ao,ha⟩:=um.mp (QL.mp s _ (Zu hl));obtain⟨o,ho⟩:=(d.R.cells i ao b ((FA hl).trans (congrArg some ha)) hi).there;show absurd (Oh ho) (Nat.not_lt.mpr hb)
      show Yi t1 t2 λh' hk g=>wpAny_pyIter_zip g.z ?_;obtain⟨k1,R1⟩:=FC.over (S:=S) (H:=S.h₀) (k0:=λ_ _ e=>e) d.R (λ_=>False) (h':=h') (λx o _ e=>hk x o e) (λ_ m=>m.elim) L;have up:∀x o,x ∉ d.γ->h'.get? x=some o->(wo h' d.γ).get? x=some o:=λx o m e=>by
       rw[Dq];show e;cases q:d.γ.contains x with
       |false=>rfl
       |true=>show absurd (LK.mp q) m
      have D:ZipApart (d.h.objs.size+4) (d.h.objs.size+2) (d.h.objs.size+3) d.h.objs.size (d.h.objs.size+1) w1 j:=Yk M N;have Z3:Zp (wo h' d.γ) (d.h.objs.size+4) (d.h.objs.size+2) (d.h.objs.size+3) d.h.objs.size (d.h.objs.size+1) w1 j 0 xs C .none .none .none:=
       ⟨up _ _ (Jv _ (AAd ..)) g.z,up _ _ (Jv _ (AAd ..)) g.TI,up _ _ (Jv _ (AAd ..)) g.TO,AH g.i1 λo ho r=>⟨o,up _ _ (Jv _ (QJ _)) ho,r⟩,AH g.i2 λo ho r=>⟨o,up _ _ (Jv _ (AAd ..)) ho,r⟩,
         AH g.l1 λo ho r=>⟨o,up _ _ n1 ho,r⟩,AH g.l2 λo ho r=>⟨o,up _ _ n2 ho,r⟩⟩
      let cz:At (S.on (wo h' d.γ) k1):=⟨d.γ,d.σ,_,R1⟩
      have O:AR d.γ fr env:=((z.at l1).at l2).at l3;show lF B F hr et D (λb m=>new b (by
       rcases m with rfl|rfl|rfl|rfl
       · show AAd _ 4
       · show AAd _ 3
       · show QJ _
       · show AAd _ 1)) (λH k0 c4 P R=>?_) its 0 (by rw[hj,Nat.zero_add]) (λi x e=>by rw[Nat.zero_add];show hi i x e) _ k1 cz _ _ Z3 O J
      have G4:Good (S.on H k0) n (run T Z n):=Eu (B.grow (S.grows k0)) (F _ (S.grows k0)) n;show G4.st hr R P _ _ λfl c5 f h5 _ rf=>q H k0 c5 fl f h5 rf
    |_=>show g1.elim
def R4 {h:Heap}{l:List Int}:∀ {vs:List Value},Ad h (l.map .int) vs->∀(i:Nat) x,l[i]?=some x->∃v,vs[i]?=some v/\x6 (.int x) v:=by
 induction l with
 |nil=>intro vs r i x e;simp at e
 |cons y l ih=>
  rintro vs ⟨v,a,rfl,r,rs⟩ i x e
  cases i with
  |zero=>ext e;show⟨v,rfl,λZ=>r⟩
  |succ i=>show ih rs i x e
def U7 {h}{l}:∀ {vs:List Value},Ad h l vs->l.length=vs.length:=by
 induction l with
 |nil=>intro vs r;ext r;rfl
 |cons y l ih=>rintro vs ⟨v,a,rfl,r,rs⟩;rw[Zh,Zh,ih rs]
def lG (l m:List Int):List (Dt×Dt):=(l.zip m).map λx=>(.int x.1,.int x.2)
def x8 (T:Hj)(Z:Jd)(n:Nat)(a:Addr)(l m:List Int)(sp:Spec):Prop:=∀p,sp.pre p->∀w1 b:Addr,AD (T.fns.lookup a) λF=>As (Nat.beq F.params.length 2)
 (Jc F.fd a F.params [.d (.v (.ref w1)),.d (.v (.ref b))] [] λfr σ=>pE (run T Z n) fr w1 b (lG l m) F.body σ (X2 λav σ=>Gj 0 p av σ sp.outs))
def sv (G:BX K S T)(I:∀S',Grows S S'->CB K S' Z){a:Addr}{l m:List Int}(s:l.length=m.length){sp:Spec}(J:∀p,sp.args p=[.d (.tup (l.map .int)),.d (.tup (m.map .int))])(L:∀p,sp.cells p=[])(h:x8 T Z n a l m sp):DR S (n+1) a sp:=by
 intro p hp c hc vs rs A hr Q q;rw[J] at rs;obtain⟨v1,ws,rfl,⟨w1,xs,rfl,t1,D⟩,v2,M,rfl,⟨t,ys,rfl,N,O⟩,rfl⟩:=rs;rw[L] at hc
 let S1:=S.on c.h c.R.keep
 have H1:BX K S1 T:=G.grow (S.grows _);have R1:FC S1 [] [] c.s:=⟨λ_ _ e=>e,rfl,λi ao a e _=>(nomatch e),λa m=>(nomatch m),λi j ao ao' a e=>(nomatch e),c.R.gens,c.R.os⟩
 let c0:At S1:=⟨[],[],c.s,R1⟩
 show AA (h p hp w1 t) λF P h=>AG h λhm h=>?_;have d:=H1.fns a F P;obtain⟨o,ho,hd⟩:=d.obj;show codeAny_call_function (by have:=hr.depth;lia) ho hd d.co d.gen d.body d.rec_ ?_;rw[d.bind [.ref w1,.ref t] (LJ hm).symm];show B9 (HP (c:=c0) (as:=[.d (.v (.ref w1)),.d (.v (.ref t))]) d.kind d.glob d.blt ⟨_,_,rfl,rfl,_,_,rfl,rfl,rfl⟩ h λR c1 E h1 l1 w _=>⟨S1.nl.keeps c1.R.keep,codeAny_func ?_⟩);have y:xs.size=(lG l m).length:=by
  unfold lG;rw[Ei,List.length_zip,<-s,Nat.min_self,<-Ej,<-U7 D,Ei]
 show fV (S:=S1) H1 (λS' g=>I S' ((S.grows _).trans g)) hr.deeper t1 N y (λi x e=>?_) w h1 λH k0 k fl f z rf=>?_
 · unfold lG at e;rw[Vm,XX] at e;obtain⟨⟨U,V⟩,e,rfl⟩:=e;rw[List.getElem?_zip_eq_some] at e;obtain⟨u,W,Y⟩:=R4 D i U e.1;obtain⟨v,ev,dv⟩:=R4 O i V e.2;show⟨u,v,by rwa [Vn] at W,by rwa [Vn] at ev,Y,dv⟩
 · have fin:∀av v,k.VR av v->Gj 0 p av k.σ sp.outs->Q (.ok (.ret v)) k.s:=λav v rv hk=>GH (c:=k) rv hk λB js tc X hx r=>by
    let c3:At S:=⟨_,_,_,FC.less (S:=S) (H:=H) (k0:=λb o e=>k0 b o (c.R.keep b o e)) X.at.R⟩
    have C:c.γ=[]:=List.eq_nil_of_length_eq_zero (by rw[c.R.len,hc];rfl);show q B c3 v hx ⟨by show(C)▸?_;show⟨_,rfl⟩,.keeps λb o e=>k.R.keep b o (k0 b o e)⟩ r
   cases fl with
   |next=>ext rf;show fin (.d nn) .none rfl z
   |ret a=>obtain⟨v,rfl,r⟩:=rf;show fin a v r z
   |_=>show z.elim
end
def yA (e:Expr)(x:Str):Bool:=match e with|.Name y _=>y==x|_=>false
def lH {e}{x}(h:yA e x):∃p,e=.Name x p:=by
 show Wy (P:=∃p,e=.Name x p) ?_ h;cases e with
 |Name y p=>
  change Bool.rec True (∃q,Expr.Name y p=.Name x q) (y==x);cases q:y==x with
  |true=>show⟨p,by rw[Fz.mp q]⟩
  |false=>trivial
 |_=>trivial
def sx (e:Expr):Option (Expr×List Expr×Pos):=match e with|.Call f as a p=>Bool.rec none (some (f,as,p)) a.isEmpty|_=>none
def OK {e}{x}(h:sx e=some x):e=.Call x.1 x.2.1 [] x.2.2:=by
 show Ap (p:=λx=>e=.Call x.1 x.2.1 [] x.2.2) ?_ h;cases e with
 |Call f as a p=>show su λh=>by rw[NU.mp h]
 |_=>trivial
def yB (e:Expr):Option (Expr×Str×Pos):=match e with|.Attribute o n p=>some (o,n,p)|_=>none
def Yl {e}{x}(h:yB e=some x):e=.Attribute x.1 x.2.1 x.2.2:=by
 show Ap (p:=λx=>e=.Attribute x.1 x.2.1 x.2.2) ?_ h;cases e with
 |Attribute o n p=>rfl
 |_=>trivial
def yC (s:Stmt):Option (Expr×Pos):=match s with|.Expr e p=>some (e,p)|_=>none
def Ym {s}{x}(h:yC s=some x):s=.Expr x.1 x.2:=by
 show Ap (p:=λx=>s=.Expr x.1 x.2) ?_ h;cases s with
 |Expr e p=>rfl
 |_=>trivial
def fW (x:Stmt):Option (List Expr):=Br (yC x) λe=>Br (sx e.1) λy=>Br (yB y.1) λz=>Br (sx z.1) λw=>
 Bool.rec none (some y.2.1) ((z.2.1==("__init__":Str)&&(w.2.1.isEmpty&&yA w.1 "super"))&&((Cq y.2.1&&Nat.blt y.2.1.length 30)&&(z.2.2.endLine==y.2.2.line)))
theorem U8 {s}{x}(e:fW s=some x):∃(p f c d g:Pos),s=.Expr (.Call (.Attribute (.Call (.Name "super" p) [] [] f) "__init__" c) x [] d) g/\Cq x/\x.length<30/\(c.endLine==d.line):=
 AI e λa i e=>AI e λy j e=>AI e λz k e=>AI e λw l e=>by
  obtain⟨h,m⟩:=Eb e;obtain⟨h1,h⟩:=DQ.mp h;obtain⟨h1,b⟩:=DQ.mp h1;obtain⟨b,h3⟩:=DQ.mp b;obtain⟨h,n⟩:=DQ.mp h;obtain⟨o,q⟩:=DQ.mp h;obtain⟨p,r⟩:=lH h3;obtain rfl:y.2.1=x:=M1 m;show⟨p,w.2.2,z.2.2,y.2.2,a.2,?_,o,DF q,n⟩;rw[Ym i,OK j,Yl k,OK l,r,NU.mp b,Fz.mp h1]
def supK (ih:Ih)(fr:Fr)(a:Addr)(l:List Stmt)(i:Nat)(σ:AC)(k:FV->AC->Prop):Prop:=match l with|[]=>False|s::l=>AD (fW s) λxs=>As (!xs.isEmpty&&σ.all Option.isSome) (ih fr (.es xs) σ λas σ=>ih fr (.call (.d (.v (.ref a))) (.ref i::as)) σ λZ σ=>ih fr (.ss l) σ k)
def yD (ih:Ih)(fr:Fr)(D a:Addr)(l:List Stmt)(σ:AC)(k:FV->AC->Prop):Prop:=
 As fr.cells.isEmpty (Tv σ fr.lid λfs=>Oz fs "self" λav=>Cj σ av λi ao=>AD (IL ao) λx=>As (Nat.beq x.1 D) (supK ih fr a l i σ k))
def FC.freeze (R:FC S γ σ s):∃k,FC (S.on (wo s.heap γ) k) γ σ s:=by
 show⟨λb o e=>?_,λb o e=>HV e,R.len,R.cells,λa m=>N6 _ (LK.mpr m),R.apart,R.gens,R.os⟩;rw[Dq]
 · show R.keep b o e
 · cases q:γ.contains b with|false=>rfl|true=>show nomatch (R.fresh b (LK.mp q)).symm.trans e
structure H3 (K:Frag) (S:St) (F:Fn) (D f2:Addr):Prop where
 sup:S.mg "super"=none/\S.mb "super"=some (.type "super")
 cls:∃cd,clsIn K D=some cd
 sub:mroIn K D (.ref D)=some true
 meth:ks_superIn K D D "__init__"=some (some (.ref f2))
 fn:typeIn K (.ref f2)=some (.type "function")/\fnIn K f2
 opq:nsIn K cStatics "thirdparty.any"=some none
 top:(S.prog.main.scope.names.lookup ("super":Str)).isSome=false
 code:∃cda ccl cdd vs ccs file tf,F.fd.code=.ref cda/\K.lookup cda=some ⟨ccl,cdd,.fields vs,ccs⟩/\vs[2]?=some (.str file tf)/\((S.prog.main.file:Str)==file)
 cell:∃cc cl cld csl,F.fd.closure.lookup ("__class__":Str)=some cc/\K.lookup cc=some ⟨cl,cld,.cell (some (.ref D)),csl⟩
 self:∃ar:Arg,(F.fd.params.posonlyargs++F.fd.params.args).head?=some ar/\ar.arg="self"
 loc:F.fd.scope.names.lookup ("self":Str)=some .local/\F.fd.scope.names.lookup ("super":Str)=some .globalImplicit/\F.fd.scope.names.lookup ("__class__":Str)=some .free
theorem H3.grow {K}{S S'}{F}{D j}(x:H3 K S F D j)(g:Grows S S'):H3 K S' F D j:=
 {x with
  sup:=by rw[g.mg,g.mb];show x.sup
  top:=by show(g.prog)▸?_;show x.top
  code:=by show(g.prog)▸?_;show x.code}
def yE (T:Hj)(Z:Jd)(n:Nat)(a:Addr)(sp:Spec)(D b:Addr)(p:sp.P):Prop:=
 AD (T.fns.lookup a) λF=>As (Nat.beq F.params.length (sp.args p).length) (Jc F.fd a F.params (sp.args p) (sp.cells p) λfr σ=>yD (run T Z n) fr D b F.body σ (X2 λav σ=>Gj (sp.cells p).length p av σ sp.outs))
def sy (a:Cq xs)(hl:xs.length<30):methodCallForm (xs.length+([]:List Keyword).length) (backTo pos (starEach xs env)) (backToKw pos (keywordEach [] env)):=by
 have e1:(backTo pos (starEach xs env)).all (!·.1):=by
  have:=Fl (env:=env) (pos:=pos) a;rw[List.any_eq_false] at this;rw[QL];intro x hx
  simpa using this x hx
 unfold methodCallForm;rw[e1];change (true&&true&&decide (xs.length+0+0<30));show Fy hl
section
variable {S:St}{T:Hj}{Z:Jd}{K:Frag}{A:Around}{n:Nat}{ih:Ih}{fr:Fr}{env:Env}{c:At S}
def lI (H:BX K S T)(HZ:∀S',Grows S S'->CB K S' Z)(hr:Ay A n){F}{a D u}(X:H3 K S F D u)(ho:∃o,S.h₀.get? a=some o/\o.data=.func F.fd)(a0:fr.scope=F.fd.scope/\fr.clo=F.fd.closure/\fr.func=some a/\fr.code=F.fd.code)(hL:AR c.γ fr env){l}{k}(h:yD (run T Z n) fr D u l c.σ k)
 {body} {E} {Q} (q:∀r (c':At S) x,k r c'.σ->c.le c'->c'.FR r x->Q x c'.s):_root_.PySem.wpAt S.mdl A (.func body env) (execs l env) Q E c.s:=by
  obtain⟨hk,L,F',cl,h1,h2,h3,rfl⟩:=id hL;obtain⟨e1,e2,e3,e4⟩:=a0;show AG h λhc h=>Ec h λfs el h=>AA h λav ex h=>?_;have h3:cl=[]:=by
   rw[NU.mp hc] at h3;ext h3;rfl
  subst h3;obtain⟨kvs,rk,hn,hz⟩:=(c.R.cells _ _ _ el h1).ns;obtain⟨v,hv,rv⟩:=rk.get ex;revert hv;show Al h rv λi ao ad ea b2 ro h hv=>AA h λx ex h=>AG h λhD V=>?_;have hD:=LJ hD;have ro:AL S.prog S.w c.γ c.h (.inst x.1 x.2) ad:=FD ex▸ro;obtain⟨da,hx,hd⟩:=ro.inst;rw[hD] at hx;cases l with
  |nil=>show V.elim
  |cons s l=>
   have V:AD (fW s) λxs=>As (!xs.isEmpty&&c.σ.all Option.isSome) (run T Z n fr (.es xs) c.σ λas σ=>run T Z n fr (.call (.d (.v (.ref u))) (.ref i::as)) σ λ_ σ=>run T Z n fr (.ss l) σ k):=V;show AA V λxs a3 hB=>AG hB λW hC=>?_;obtain⟨W,I⟩:=DQ.mp W;obtain⟨q0,q1,q2,q3,q4,es,p,a4,J⟩:=U8 a3;rw[es];obtain⟨o,ho,a5⟩:=ho;show On X.code λa6 b3 b4 vs b5 file tf f1 a7 f3 f4=>?_;obtain⟨cc,b1,b6,b7,g1,g2⟩:=X.cell;obtain⟨ar,a1,a2⟩:=X.self;obtain⟨cd,B⟩:=X.cls;have y:K.In c.h:=H.X.keeps c.R.keep;obtain⟨oD,t,C⟩:∃oD,c.h.get? D=some oD/\oD.data=.cls cd:=by
    have d:=B;unfold clsIn at d;cases hk:K.lookup D with
    |none=>rw[hk] at d;ext d
    |some o=>
     rw[hk] at d;show⟨o,y _ _ hk,?_⟩;obtain⟨_,_,dt,_⟩:=o;cases dt with
     |cls x=>ext d;rfl
     |_=>ext d
   obtain⟨of,a8,M⟩:∃of,c.h.get? u=some of/\of.cls=.type "function":=by
    have w:(K.lookup u).map (·.cls)=some (.type "function"):=X.fn.1;cases z:K.lookup u with
    |none=>rw[z] at w;ext w
    |some of=>rw[z] at w;show⟨of,y _ _ z,M1 w⟩
   show ks_wpAt_execs_cons (ks_wpAt_Expr_any ?_ (by unfold interactive;rw[show Env.scope _=fr.scope from rfl,hk];rfl) rfl);rw[arm_eval_Call];show _root_.PySem.wpAt_bind ?_;show ks_wpAt_super_base (vs:=vs) (file:=file) (tf:=tf) (cc:=a6) (f:=a) (fd:=F.fd) (ar:=ar) (by change fr.scope.names.lookup _=_;rw[e1];show X.loc.2.1) (by change fr.scope.names.lookup _=_;rw[e1];show X.loc.2.2) ∅ e3 (c.R.keep _ _ ho) a5 a1 (e4.trans f1) (y _ _ a7) rfl f3 f4 X.top ?_;show ks_loadName_global hk (by change fr.scope.names.lookup _=_;rw[e1];show X.loc.2.1) (loadGlobal_builtin (S.g.keeps c.R.keep) X.sup.1 (S.b.keeps c.R.keep) X.sup.2 ⟨rfl,?_⟩);show wpAny_loadName_free (c:=cc) (v:=.ref D) hk (by change fr.scope.names.lookup _=_;rw[e1];show X.loc.2.2) (by change ([]++fr.clo).lookup _=_;rw[e2];show g1) ⟨_,y _ _ g2,rfl⟩ ?_;rw[a2];show wpAny_loadName_local hk (by change fr.scope.names.lookup _=_;rw[e1];show X.loc.1) hn hv ?_;show ks_wpAny_isType_cls t C ⟨rfl,?_⟩;show ks_wpAny_call_super t C hx rfl (λc e=>nomatch e) (looks_mroIn y X.sub) λh' e G=>?_;show _root_.PySem.wpAt_of_wpAny (An (Sh ?_));have hf:methodCallForm (xs.length+([]:List Keyword).length) (backTo q3 (starEach xs {scope:=fr.scope,locals:=L,globals:=mainGlobals,cells:=[]++fr.clo,qual:=fr.qual,func:=fr.func,code:=fr.code,frame:=some F',builtins:=builtinsNs}))
    (backToKw q3 (keywordEach [] {scope:=fr.scope,locals:=L,globals:=mainGlobals,cells:=[]++fr.clo,qual:=fr.qual,func:=fr.func,code:=fr.code,frame:=some F',builtins:=builtinsNs})):=sy p a4
   unfold methodCall;rw[hf];unfold calleeOf methodCallPos;rw[if_pos rfl]
   let c1:At S:=c.grow c.s.toks G
   show An (QK (ks_wpAny_getMethod_super (h:=h') e (looks_opaque (y.keeps G) X.opq) (l₀:=cd.mro) (λA Q E s k q=>An ((looks_clsIn (y.keeps G) B) A _ E s k (B9 q))) rfl (y.keeps G) (f:=u) ?_ (G _ _ a8) M (λe=>?_) ∅ ?_))
   · have:=X.meth;unfold ks_superIn at this;rw[B] at this;show this
   · subst e;rw[hx] at t;ext t;ext C
   · dsimp only;rw[J,if_pos (by rfl)];show An (B9 ?_)
     let g:At S:=c1.push (methodObj (.ref u) (.ref ad)) (c.s.toks+1)
     have l2:c.le g:=(c.le_grow _ G).trans (c1.le_push _ _);have hm:g.h.get? h'.objs.size=some (methodObj (.ref u) (.ref ad)):=J6 _ rfl;obtain⟨N,R2⟩:=g.R.freeze
     let S2:=S.on (wo g.h g.γ) N
     have G2:Good S2 n (run T Z n):=Eu (H.grow (S.grows N)) (HZ _ (S.grows N)) n
     let a9:At S2:=⟨g.γ,g.σ,g.s,R2⟩
     have nq:h'.objs.size ∉ c.γ:=λm=>by
      obtain⟨j,hj⟩:=ul.mp m;have hl:j<c.σ.length:=c.R.len▸(nC.mp hj).1;obtain⟨ao,ha⟩:=um.mp (QL.mp I _ (Zu hl));obtain⟨o,ho⟩:=(c.R.cells j ao _ ((FA hl).trans (congrArg some ha)) hj).there;show absurd (Oh (G _ _ ho)) (Zq _)
     have O:(wo g.h g.γ).get? h'.objs.size=some (methodObj (.ref u) (.ref ad)):=by
      rw[Dq]
      · show hm
      · cases q:g.γ.contains h'.objs.size with|false=>rfl|true=>show absurd (LK.mp q) nq
     cases P:xs with
     |nil=>rw[P] at W;ext W
     |cons z0 zs=>
      rw[P] at hC p;have R:AR g.γ fr _:=hL.at l2;show callWith_of (by rw[Fl p];rfl) (keeps_M (f:=u) (self:=.ref ad) X.fn.2) (FY p (G2.evs (c:=a9) hr R hC _ _ λas U vs h3 l3 rs=>⟨⟨U.R.keep _ _ O,H.X.keeps λb o e=>U.R.keep b o (N b o e)⟩,?_⟩));have ri:U.VR (.ref i) (.ref ad):=⟨_,rfl,l3.pre.get ea⟩
      show wpAny_call (ks_codeAny_call_bound (U.R.keep _ _ O) (G2 fr (.call (.d (.v (.ref u))) (.ref i::as)) _ U h3 A hr (.ref u) _ rfl ⟨_,_,rfl,ri,rs⟩ _ λr c4 v h4 l4 rv=>?_));have b0:AR c4.γ fr _:=(R.mono l3.pre).mono l4.pre;show _root_.PySem.wpAt_of_wpAny (G2.st hr b0 h4 _ _ λfl Y f h5 l5 rf=>?_)
      let c6:At S:=⟨Y.γ,Y.σ,Y.s,FC.less (S:=S) (H:=wo g.h g.γ) (k0:=N) Y.R⟩
      show q fl c6 f h5 ⟨((l2.pre.trans l3.pre).trans l4.pre).trans l5.pre,((l2.tk.trans l3.tk).trans l4.tk).trans l5.tk⟩ (by cases fl<;>show rf)
def s4 (H:BX K S T)(y:∀S',Grows S S'->CB K S' Z){a}{sp}{D u}(X:∀F,T.fns.lookup a=some F->H3 K S F D u)(h:∀p,sp.pre p->yE T Z n a sp D u p):DR S (n+1) a sp:=by
 intro p hp c hc vs rs A hr Q q;show AA (h p hp) λF t h=>AG h λhm h=>?_;rw[<-hc] at h;have b:=H.fns a F t;obtain⟨o,ho,hd⟩:=b.obj;show codeAny_call_function (by have:=hr.depth;lia) (c.R.keep _ _ ho) hd b.co b.gen b.body ?_ ?_
 · obtain⟨c',z,d,B,hc,g,i,hq⟩:=b.rec_;show⟨c',z,d,B,hc,c.R.keep _ _ g,i,hq⟩
 show(b.bind vs (rs.length.symm.trans (LJ hm).symm))▸?_;show B9 (HP b.kind b.glob b.blt rs h λC c1 w h1 l1 j k=>⟨S.nl.keeps c1.R.keep,ks_codeAny_funcAt (lI H y hr.deeper (X F t) ⟨o,ho,hd⟩ (by obtain⟨_,_,rfl⟩:=k;show⟨rfl,rfl,rfl,rfl⟩) j h1 λfl l f m l2 rf=>?_)⟩);have fin:∀av v,l.VR av v->Gj c.σ.length p av l.σ sp.outs->Q (.ok (.ret v)) l.s:=λav v E hk=>GH E hk λs js tc F x r=>q s F.at v x (F.le0 (l1.trans l2) c.R.len) r;cases fl with
 |next=>ext rf;show fin (.d nn) .none rfl m
 |ret a=>obtain⟨v,rfl,r⟩:=rf;show fin a v r m
 |_=>show m.elim
end
def H4 (Z:Jd)(n:Nat)(a:Addr)(l m:List Int)(sp:Spec):=x8 TT Z n a l m sp
def DC (Z:Jd)(n:Nat)(a:Addr)(sp:Spec)(D b:Addr):Prop:=∀p,sp.pre p->yE TT Z n a sp D b p
def iD (l:List Int):Dt:=.tup (l.map .int)
def Cs (j:Nat):Spec where
 P:=Unit
 d:=()
 args:=λZ=>[.d (iD [1,qx j]),.d (iD [0,1])]
 cells:=λZ=>[]
 pre:=λZ=>True
 ext:=λZ Z=>()
 outs:=[NJ (λZ=>.ref 0) λZ=>[some (.list (Oq j))]]
def OL (i:Nat)(l:List AV)(_:AC):Nat:=Bool.rec (Bool.rec 2 1 (Int.decEq (-1) (rI (Ae (DH (Ae l i)) 1))).decide) 0 (Int.decEq 1 (rI (Ae (DH (Ae l i)) 1))).decide
def BU (k:Nat):Spec where
 P:=Int
 d:=0
 args:=λc=>[.ref 0,.d (iD [1,qx k]),.d (iD [0,1]),.d (.int c)]
 cells:=λZ=>[some (.inst (Lg k) 1),some (.ns [])]
 pre:=λZ=>True
 ext:=λl Z=>rI (Ae l 3)
 outs:=[NJ (λZ=>.d nn) λc=>eD k c 0]
def fX (k:Nat):Str:=Fi (J9 k) "linear_le" "linear_ne" "linear_eq"
def BV (k:Nat):Spec where
 P:=Int
 d:=0
 args:=λc=>[.d (.tup [.str (fX k),iD [1,qx k],iD [0,1],.int c])]
 cells:=λZ=>[]
 pre:=λZ=>True
 ext:=λl Z=>rI (Ae (DH (Ae l 0)) 3)
 outs:=[NJ (λZ=>.ref 0) λc=>eD k c 0]
def NN:=Hx Mf [(Bz,CI)] Cv Bs De
def pF:List (Addr×Nat×Hl):=(B2,40,BZ Cs (OL 0))::Mf
def M0:=Hx pF [(Bz,CI)] Cv Bs De
def pG:List (Addr×Nat×Hl):=(Av,61,BZ BU (OL 1))::(Aw,61,BZ (λj=>BU (3+j)) (OL 1))::(CJ,61,BZ (λj=>BU (6+j)) (OL 1))::Mf
def H6:List (Addr×Addr):=[(B0,Av),(B1,Aw),(Dr,CJ),(Bz,CI),(Ur,PO),(Wg,NG),(Ku,NH),(HW,D0)]
def Jz:Jd:=Hx pG H6 Cv Bs De
def W0 (n m:Nat)(c:Int):Dt:=.tup [.sel [.str "linear_le",.str "linear_ne",.str "linear_eq"] n,.tup [.int 1,.sel [.int 1,.int (-1),.int 2] m],iD [0,1],.int c]
def Po (t:Dt):Nat:=match t with|.sel _ n=>n|_=>0
def U9 (a:AV):Dt:=(Ff a).getD .any
def Hq (t:Dt):List Dt:=(JS t).getD []
def Fu (l:List Dt)(i:Nat):Dt:=(l[i]?).getD .any
def I9:Spec where
 P:=Nat×Nat×Int
 d:=(0,0,0)
 args:=λp=>[.d (W0 p.1 p.2.1 p.2.2)]
 cells:=λZ=>[]
 pre:=λp=>p.1<3/\p.2.1<3
 ext:=λl Z=>(Po (Fu (Hq (U9 (Ae l 0))) 0),Po (Fu (Hq (Fu (Hq (U9 (Ae l 0))) 1)) 1),rI (.d (Fu (Hq (U9 (Ae l 0))) 3)))
 outs:=[NJ (λZ=>.ref 0) λp=>AAV (3 * p.1+p.2.1) p.2.2 0]
def Hc:∀ {n:Nat},Ik h l n v->l[n]?=some t->Ah h t v:=by
 induction l with
 |nil=>intro n _ e;ext e
 |cons x l ih=>
  intro n r e;cases n with
  |zero=>ext e;show r
  |succ n=>show ih r e
def OM {i j}(h1:i<3)(a:j<3):([.str "linear_le",.str "linear_ne",.str "linear_eq"]:List Dt)[i]?=some (.str (fX (3 * i+j))):=by
 rcases(by lia:i=0∨i=1∨i=2) with rfl|rfl|rfl<;>rcases(by lia:j=0∨j=1∨j=2) with rfl|rfl|rfl<;>rfl
def ON {i j}(h1:i<3)(a:j<3):([.int 1,.int (-1),.int 2]:List Dt)[j]?=some (.int (qx (3 * i+j))):=by
 rcases(by lia:i=0∨i=1∨i=2) with rfl|rfl|rfl<;>rcases(by lia:j=0∨j=1∨j=2) with rfl|rfl|rfl<;>rfl
def Yn {S}{m}{a}(h:∀k,k<9->DR S m a (BV k)):DR S m a I9:=by
 intro p hp c hc vs rs A hr Q q;obtain⟨i,j,x⟩:=p;obtain⟨h1,d⟩:=hp;have h1:i<3:=h1;have d:j<3:=d;show h (3 * i+j) (by lia) x trivial c hc vs ?_ A hr Q λav c' v hx l s=>?_
 · obtain⟨v,t,rfl,⟨ad,its,rfl,u,u0,w0,e0,r0,u1,w1,e1,⟨f,b,g,n,w,y,f0,s0,z,B,f1,s1,s2⟩,C⟩,rw⟩:=rs;have g0:=Hc r0 (OM h1 d);have g1:=Hc s1 (ON h1 d);show⟨_,t,rfl,⟨ad,its,rfl,u,u0,w0,e0,g0,u1,w1,e1,⟨f,b,g,n,w,y,f0,s0,z,B,f1,g1,s2⟩,C⟩,rw⟩
 · obtain⟨o,m,q',r,e1,D⟩:=hx;cases Vo.mp m;show q av ⟨c'.γ,AAV (3 * i+j) x 0,c'.s,c'.R.same (by rw[D];rfl)⟩ v ⟨_,Sg ..,q',r,e1,rfl⟩ ⟨l.pre,l.tk⟩ s
structure lJ where
 n:Nat
 m:Nat
 c:Int
structure FS where
 a0:Int
 h0:Int
 a1:Int
 h1:Int
 g:Nat
 o:Nat
 t0:lJ
 t1:lJ
def Yo:FS:=⟨0,0,0,0,0,0,⟨0,0,0⟩,⟨0,0,0⟩⟩
def J0:List Dt:=[.tup [.str "satisfy",nn],.tup [.str "minimize",.int 0],.tup [.str "maximize",.int 0],.tup [.str "minimize",.int 1],.tup [.str "maximize",.int 1]]
def Mg:Dt:=.tup [.tup [.str "int",.int 0],.tup [.str "text",.str " "],.tup [.str "int",.int 1]]
def fY (t:lJ):AV:=.d (W0 t.n t.m t.c)
def J1 (b:Bool)(f:FS):List AV:=match b with|false=>[fY f.t0]|true=>[fY f.t0,fY f.t1]
def R5 (b:Bool)(f:FS)(p:Nat):AC:=[some (.inst Gk (p+1)),some (.ns [("vars",.ref (p+2)),("tolds",.ref (p+3)),("goal",.d (.sel J0 f.g)),("shown",.d Mg)]),
 some (.list [.d (.tup [.str "x",.dom [(f.a0,f.h0)]]),.d (.tup [.str "y",.dom [(f.a1,f.h1)]])]),some (.list (J1 b f)),some (.kd .opt f.o 0 0)]
def OO (a:AV):lJ:=⟨Po (Fu (Hq (U9 a)) 0),Po (Fu (Hq (Fu (Hq (U9 a)) 1)) 1),rI (.d (Fu (Hq (U9 a)) 3))⟩
def H7 (o:AO):List AV:=(Lk o).getD []
def yF (a:AV):Int×Int:=match rD a with|[]=>(0,0)|x::_=>x
def uc (a:AV):Nat:=Option.rec (Option.rec 0 (λl=>Bool.rec (Bool.rec (2+2 * (rI (.d (Fu l 1))).toNat) (1+2 * (rI (.d (Fu l 1))).toNat) (rS (.d (Fu l 0))==("minimize":Str))) 0 (rS (.d (Fu l 0))==("satisfy":Str))) (JS (U9 a))) (λx=>x.2) (WZ (U9 a))
def OQ (σ:AC)(p:Nat):FS:=⟨(yF (Ae (DH (Ae (H7 (rO σ (p+2))) 0)) 1)).1,(yF (Ae (DH (Ae (H7 (rO σ (p+2))) 0)) 1)).2,(yF (Ae (DH (Ae (H7 (rO σ (p+2))) 1)) 1)).1,(yF (Ae (DH (Ae (H7 (rO σ (p+2))) 1)) 1)).2,
 uc (rF (rO σ (p+1)) "goal"),(km (rO σ (p+4))).1,OO (Ae (H7 (rO σ (p+3))) 0),OO (Ae (H7 (rO σ (p+3))) 1)⟩
structure EJ (b:Bool) (f:FS):Prop where
 d0:f.a0<=f.h0
 d1:f.a1<=f.h1
 g:f.g<5
 o:f.o<5
 t0:f.t0.n<3/\f.t0.m<3
 t1:b->f.t1.n<3/\f.t1.m<3
def yG (n:Nat)(σ:AC):AC:=σ.map (Option.map (uY λi=>i+n))
def kT (t:lJ):Nat:=3 * t.n+t.m
def vsI (b:Bool)(f:FS):VS:=match b with|false=>⟨kT f.t0,f.t0.c,0,0⟩|true=>⟨kT f.t0,f.t0.c,kT f.t1,f.t1.c⟩
def W1 (b:Bool)(f:FS):QS:=(⟨0,0,false,false,0,0,0,0,[],[]⟩,⟨-1,false,[(f.a0,f.h0)],[(f.a1,f.h1)],[(f.a0,f.h0)],[(f.a1,f.h1)],[],[],false,false⟩,⟨true,-1,true,b,true,b,false,false⟩,vsI b f)
def solC (f:AC):AC:=[some (.inst HW 1),some (.ns [("flat",.ref 2),("search",.ref 7)])]++f
def HG (b:Bool):Spec where
 P:=FS
 d:=Yo
 args:=λZ=>[.ref 0,.ref 2,.ref 6]
 cells:=λf=>[some (.inst HW 1),some (.ns [])]++R5 b f 2
 pre:=EJ b
 ext:=λZ σ=>OQ σ 2
 outs:=[{Q:=QS,d:=QN,res:=λZ Z=>.d nn,cells:=λf q=>solC (R5 b f 2)++yG 7 (xz b false q),post:=λf q=>q=W1 b f,ext:=λZ Z σ=>ub false (σ.drop 7),sel:=yes}]
def pH:List (Addr×Nat×Hl):=(Ak,81,MM I9)::Mf
def Z17:=Hx pH H6 Cv Bs De
def gL (l:List Lf):List Lf:=Lf.i 1::Lf.s "int"::Lf.s " "::Lf.s "text"::Lf.i 0::Lf.s "int"::Lf.t J0::l
def oL (t:lJ)(l:List Lf):List Lf:=Lf.i t.c::Lf.i 1::Lf.i 0::Lf.t [.int 1,.int (-1),.int 2]::Lf.n t.m::Lf.i 1::Lf.t [.str "linear_le",.str "linear_ne",.str "linear_eq"]::Lf.n t.n::l
theorem DT:∀n,1<=Bg n
 |0|1|2|3=>by decide
 |_+4=>show (1:Int)<=2 by decide
theorem fZ {n:Nat}{p:Prop}(h:decide (Bg n<1)):p:=absurd (AAL h) (Int.not_lt.mpr (DT n))
end
section
theorem K3 {d}(h:Aq d):AM d<=4:=dw d h
theorem lB.mono {K}{q}{s}{r}{R}{m m'}(h:lB K q s r R m)(l:m<=m'):lB K q s r R m':=
 ⟨λe=>M2 (h.yes e) λa b c d=>⟨a,b,c,pd d l⟩,λe=>M2 (h.no e) λa b c d=>⟨a,b,c,pd d l⟩⟩
def Kc.one (E:Kc b a r s' x'):One b x':=by
 cases r with
 |true=>show(E.1 rfl).one
 |false=>show(E.2 rfl).one
section
variable {b:Bool}{p:QS}
theorem R6 (hp:AAK b true p){q}{s'}{r}(T:ED p.1 p.2.1 r q s')(hr:r):Fc b s' p.2.2.1 p.2.2.2:=OJ (T.t.yes hr) hp.vs hp.one
def goB (hp:AAK b true p){q}{s' s''}{r r'}{x'}(T:ED p.1 p.2.1 r q s')(hr:r)(E:Kc b (s',p.2.2.1,p.2.2.2) r' s'' x'):Se b true p r' q s'' x':=by
 have t:=hp.t rfl;have ph:p.1.rf.length+wF p.1 p.2.1<=900:=t.ph;show⟨?_,E.one,(AAY (T.t.yes hr) ph E).mono (m':=1000) (by change wF p.1 p.2.1+1<=1000;lia)⟩;show(T.t.same)▸?_;show⟨rfl,rfl,rfl⟩
theorem fa (T:ED p.1 p.2.1 r q s')(hr:r=false):BE b true p=[]:=T.t.no hr _
theorem Pp (hp:AAK b false p){r}{q}{s'}(h:q=p.1/\(r,s')=Fq p.1.gn p.1.gv p.2.1):U2 p.1.gn p.1.gv p.2.1 r s':=Rz hp.g.lt (hp.u rfl).pre.g0 (hp.u rfl).pre.g1 h.2
def Mh (hp:AAK b false p){r}{q}{s'}(h:q=p.1/\(r,s')=Fq p.1.gn p.1.gv p.2.1)(hr:r):Fc b s' p.2.2.1 p.2.2.2:=by
 have A:=Pp hp h;have U:=hp.u rfl;show⟨U.pre.of A.gr (A.fl hr),hp.vs,hp.one,.inr U.w⟩
def W2 (hp:AAK b false p){r r'}{q}{s' s''}{x'}(h:q=p.1/\(r,s')=Fq p.1.gn p.1.gv p.2.1)(hr:r)(E:Kc b (s',p.2.2.1,p.2.2.2) r' s'' x'):Se b false p r' q s'' x':=by
 have A:=Pp hp h;have U:=hp.u rfl;have P:=Mh hp h hr;obtain⟨rfl,_⟩:=h;have hm:s'.ms=[]:=A.gr.ms.trans U.ms;have T:PT p.1 s':=⟨P.pre,by rw[U.pa];show hm,by rw[hm];show QQ _,λa c j hc=>((A.yes hr a c).mp ⟨j,hc⟩).2⟩
 have f:ag p.1.pa s'=[]:=by rw[U.pa];rfl
 have hn:B6 (s'.d0,s'.d1)<=4 * 4:=Nat.mul_le_mul (K3 P.pre.g0) (K3 P.pre.g1);have k:wT p.1 s'<=46:=by unfold wT;rw[f];show Nat.sub_le_sub_right (Zt 3 hn) 2
 have g:=U3 (m:=1000) T E (by rw[U.rf];change 0+_<=900;omega) (by omega);have e:IY (CO b p.2.2.2) p.1 s'=BE b false p:=by
  unfold IY;rw[f];change _++[]=_;rw[XW];show IX λa c=>?_;have i:=A.yes hr a c;cases h1:I5 (s'.d0,s'.d1) (a,c) with
  |true=>
   obtain⟨h3,d⟩:=i.mp (BS.mp h1);rw[BS.mpr h3]
  |false=>
   cases h3:I5 (p.2.1.d0,p.2.1.d1) (a,c) with
   |false=>rfl
   |true=>
    cases d:gK p.1.gn p.1.gv a c with
    |false=>unfold KG;rw[d];simp
    |true=>rw[BS.mpr (i.mpr ⟨BS.mp h3,d⟩)] at h1;ext h1
 rw[e] at g;show⟨⟨rfl,rfl,rfl⟩,E.one,g⟩
def fc (hp:AAK b false p){r}{q}{s'}(h:q=p.1/\(r,s')=Fq p.1.gn p.1.gv p.2.1)(hr:r=false):Se b false p r q s' p.2.2.1:=by
 have A:=Pp hp h;have U:=hp.u rfl;obtain⟨rfl,_⟩:=h;subst hr;have hm:s'.ms=[]:=A.gr.ms.trans U.ms;have f:Zl p.2.1:=⟨U.pre.e0,U.pre.e1,U.pre.l0,U.pre.l1⟩
 have d:ag p.1.pa s'=[]:=by show(U.pa)▸?_;rfl
 have g:Sd (Ab p.2.1):=⟨U.pre.g0,U.pre.g1,U.pre.n0,U.pre.n1,U.pre.sh,by change p.2.1.ms.length<=_;show(U.ms)▸?_;show QQ _⟩
 show⟨⟨rfl,rfl,rfl⟩,hp.one,λe=>(nomatch e),λZ=>⟨⟨f.of A.gr,Mb A.gr g,by show(U.pa)▸?_;show hm⟩,?_,?_,?_⟩⟩
 · unfold Jx;show(d)▸?_;show(MY λa c h1 i=>A.no rfl a c (BS.mp h1).1 (BS.mp h1).2 (DQ.mp i).2).symm
 · unfold wF;rw[d,U.rf];decide
 · unfold wF;show(d)▸?_;decide
def EK (h:v=p.2.2.2)(G:AAK b bg p):AAK b bg (p.1,p.2.1,p.2.2.1,v):=by subst h;show G
def Pq (h:v=p.2.2.2)(e:BE b bg (p.1,p.2.1,p.2.2.1,v)=[]):BE b bg p=[]:=by subst h;show e
end
def JA (h:fN v v₀):v=v₀:=by
 obtain⟨a,c,d,e⟩:=v;obtain⟨g,c',i,j⟩:=v₀;obtain⟨h1,b,h3,f⟩:=h;ext h1;ext b;ext h3;ext f;rfl
def GV {v}{k}{c:Int}(h:fN v (H0 k c 0 0)):H0 v.k0 v.c0 0 0=H0 k c 0 0:=by rw[h.k0,h.c0]
def fN.of (h:v=v₀):fN v v₀:=by subst h;show⟨rfl,rfl,rfl,rfl⟩
def VA {a c:Int}{P:Int×Int->Bool}(h:∀p,P p=true<->p=(a,c)){l:List (Int×Int)}(hl:l.Nodup)(m:(a,c)∈l):l.filter P=[(a,c)]:=by
 have e:P=λp=>decide (p=(a,c)):=by
  funext p
  rw[Bool.eq_iff_iff,h,Oi]
 rw[e];clear e h
 induction l with
 |nil=>ext m
 |cons y l ih=>
  rw[List.nodup_cons] at hl;rw[nB]
  by_cases q:y=(a,c)
  · rw[if_pos (Fy q)];subst q;rw[pi.mpr];intro z hz e;have e:=AAL e;subst e;show hl.1 hz
  · rw[if_neg (by rw[Oi];show q)];show ih hl.2 ((QP.mp m).resolve_left λe=>q e.symm)
def VB:I4.Nodup:=by
 have:I4.Nodup=([((0:Int),(0:Int)),(0,1),(0,2),(0,3),(1,0),(1,1),(1,2),(1,3),(2,0),(2,1),(2,2),(2,3),(3,0),(3,1),(3,2),(3,3)].Nodup):=rfl;show(this)▸?_;decide
def mem4 {v:Int}(h:v∈([0,1,2,3]:List Int))(w:Int)(h':w∈([0,1,2,3]:List Int)):(v,w)∈I4:=by
 have:∀v∈([0,1,2,3]:List Int),∀w∈([0,1,2,3]:List Int),(v,w)∈([(0,0),(0,1),(0,2),(0,3),(1,0),(1,1),(1,2),(1,3),(2,0),(2,1),(2,2),(2,3),(3,0),(3,1),(3,2),(3,3)]:List (Int×Int)):=∅
 show this v h w h'
def lK {K:Int->Int->Bool}{d0 d1:Cf}(g0:Aq d0)(g1:Aq d1)(n0:d0≠[])(n1:d1≠[])(f0:AT d0)(f1:AT d1)(k:K (Ac d0) (Ac d1)):E6 K (d0,d1)=[(Ac d0,Ac d1)]:=by
 show VA (λp=>?_) VB (mem4 (IS g0 (ends g0 n0).1) _ (IS g1 (ends g1 n1).1));rw[DQ,show (I5 (d0,d1) p=true<->_) from BS,Co g0 n0 f0,Co g1 n1 f1]
 constructor
 · rintro⟨⟨h1,a⟩,_⟩;show Prod.ext h1 a
 · rintro rfl;show⟨⟨rfl,rfl⟩,k⟩
section
variable {b bg:Bool}{p:QS}(hp:AAK b bg p){V0:VS}(hv:V0=p.2.2.2){r0:Bool}{q0:PS}{s0:SS}{x0:ES}(G:Se b bg (p.1,p.2.1,p.2.2.1,V0) r0 q0 s0 x0)
def Se.rem (hv:V0=p.2.2.2)(G:Se b bg (p.1,p.2.1,p.2.2.1,V0) r0 q0 s0 x0):fL b ((q0,s0,x0,V0),r0)=BE b bg p:=by
 subst hv;cases r0 with
 |true=>show(G.st.yes rfl).2.1
 |false=>show(G.st.no rfl).2.1
def Gq.first (hv:V0=p.2.2.2)(G:Se b bg (p.1,p.2.1,p.2.2.1,V0) r0 q0 s0 x0):Gq b ((q0,s0,x0,V0),r0) ((q0,s0,x0,V0),r0):=by
 show⟨⟨rfl,rfl,rfl⟩,⟨rfl,rfl,rfl,rfl⟩,G.one,?_⟩;show(G.rem hv)▸?_;subst hv;show G.st
variable {y:NP}(I:Gq b ((q0,s0,x0,V0),r0) y)
include hp hv G I
def n_g:U0 y.1.1:=by
 have e1:y.1.1.gn=p.1.gn:=I.g.1.trans G.g.1;have a:y.1.1.gv=p.1.gv:=I.g.2.1.trans G.g.2.1;show⟨by show(e1)▸?_;show hp.g.lt,by rw[e1,a];show hp.g.z⟩
theorem fh (h:y.2=false):HE y.1.1 y.1.2.1:=⟨n_g hp hv G I,(I.st.no h).1,(I.st.no h).2.2.1⟩
theorem fj (hV:j=V0)(T:ED y.1.1 y.1.2.1 r q s')(hr:r):Fc b s' y.1.2.2.1 j:=OJ (T.t.yes hr) (by rw[hV,hv];show hp.vs) I.one
def fk (hV:j=V0)(h:y.2=false)(T:ED y.1.1 y.1.2.1 r q s')(hr:r)(E:Kc b (s',y.1.2.2.1,j) r' s'' x'):Gq b ((q0,s0,x0,V0),r0) ((q,s'',x',j),r'):=by
 subst hV;have S:=I.st.no h;have a:=AAY (b:=b) (T.t.yes hr) (show y.1.1.rf.length+wF y.1.1 y.1.2.1<=900 from S.2.2.1) E;have e:Jx (CO b j) {y.1.1 with an:=q.an,fs:=q.fs,sc:=q.sc} y.1.2.1=fL b ((q0,s0,x0,j),r0):=S.2.1;rw[e] at a;show⟨?_,⟨rfl,rfl,rfl,rfl⟩,E.one,a.mono (by have:=S.2.2.2;change wF y.1.1 y.1.2.1+1<=1000;lia)⟩;show(T.t.same)▸?_;show I.g
def W3 (hV:j=V0)(h:y.2=false)(T:ED y.1.1 y.1.2.1 r q s')(hr:r)(E:Kc b (s',y.1.2.2.1,j) r' s'' x'):wN ((q,s'',x',j),r')<wN y:=by
 have S:=I.st.no h;have a:=AAY (b:=b) (T.t.yes hr) (show y.1.1.rf.length+wF y.1.1 y.1.2.1<=900 from S.2.2.1) E;have e:wN y=wF y.1.1 y.1.2.1+1:=by unfold wN;rw[h]
 show(e)▸?_;cases r' with
 |true=>show(a.yes rfl).2.2.2
 |false=>show(a.no rfl).2.2.2
def fm (h:y.2=false){q}{s'}{r}(T:ED y.1.1 y.1.2.1 r q s')(hr:r=false):BE b bg p=[]:=by
 rw[<-G.rem hv,<-(I.st.no h).2.1];show T.t.no hr _
theorem H8 (h:y.2):Bu y.1.2.1:=(I.st.yes h).1.pre
def fp (h:y.2)(hf:AT y.1.2.1.d0/\AT y.1.2.1.d1){q}(hq:q={y.1.1 with an:=true}):Gm b bg p (Ac y.1.2.1.d0) (Ac y.1.2.1.d1) (q,y.1.2.1,y.1.2.2.1,p.2.2.2):=by
 show M2 (I.st.yes h) λT h1 d h3=>?_;subst hv;have hg:=n_g hp rfl G I;have P:=T.pre;have f:KG (CO b p.2.2.2) y.1.1 (Ac y.1.2.1.d0) (Ac y.1.2.1.d1):=by
  unfold KG;rw[DQ];show⟨T.fin hf.1 hf.2,T.g _ _ (ends P.g0 P.n0).1 (ends P.g1 P.n1).1⟩
 have g:=lK P.g0 P.g1 P.n0 P.n1 hf.1 hf.2 f;have i:BE b bg p=IY (CO b p.2.2.2) y.1.1 y.1.2.1:=(G.rem rfl).symm.trans h1.symm;have a:q.gn=y.1.1.gn/\q.gv=y.1.1.gv:=by rw[hq];show⟨rfl,rfl⟩
 have c:q.pa=y.1.1.pa/\q.rf=y.1.1.rf:=by rw[hq];show⟨rfl,rfl⟩
 have eK:KG (CO b p.2.2.2) q=KG (CO b p.2.2.2) y.1.1:=by unfold KG;rw[a.1,a.2]
 show⟨⟨a.1.trans (I.g.1.trans G.g.1),a.2.trans (I.g.2.1.trans G.g.2.1)⟩,?_,⟨⟨by rw[a.1];show hg.lt,by rw[a.1,a.2];show hg.z⟩,?_,hp.vs,I.one,λe=>(nomatch e),λZ=>⟨⟨by rw[a.1];show hg.lt,by rw[a.1,a.2];show hg.z⟩,?_,?_⟩⟩⟩
 · rw[i];unfold IY Jx;change _=_::Fd (KG (CO b p.2.2.2) q) (ag q.pa y.1.2.1);rw[g,eK,c.1];rfl
 · change q.ov=false;rw[hq];show(I.g.2.2.trans G.g.2.2).trans hp.ov
 · change Kf y.1.2.1 q.pa;rw[c.1];show⟨T.toPT.f,T.toPT.b,T.k⟩
 · change q.rf.length+phi (ag q.pa y.1.2.1)<=900;rw[c.1,c.2];unfold wT at d;lia
def Ps (hV:j=V0)(h:y.2) x (hf:AT (y.1.2.1.dom x)=false)(f0:x->AT y.1.2.1.d0):DY b x (Ac (y.1.2.1.dom x)) (y.1.1,y.1.2.1,y.1.2.2.1,j):=by
 subst hV;show M2 (I.st.yes h) λT h1 a h3=>?_;show⟨T,hf,f0,rfl,a,by show(hv)▸?_;show hp.vs,I.one⟩
def Pt {j}(hV:j=V0)(h:y.2){x}{v}{r}{q}{s'}{x'}(D:EP b x v (y.1.1,y.1.2.1,y.1.2.2.1,j) r q s' x'):Gq b ((q0,s0,x0,V0),r0) ((q,s',x',j),r):=by
 subst hV;show M2 (I.st.yes h) λT h1 a h3=>?_;have S:=D.st;have e:IY (CO b j) y.1.1 y.1.2.1=fL b ((q0,s0,x0,j),r0):=h1;have S:lB (CO b j) q s' r (fL b ((q0,s0,x0,j),r0)) (wT y.1.1 y.1.2.1):=e▸S;show⟨?_,⟨rfl,rfl,rfl,rfl⟩,D.one,S.mono (Nat.le_of_lt h3)⟩;show(D.same)▸?_;show I.g
def K4 {j}(hV:j=V0)(h:y.2){x}{v}{r}{q}{s'}{x'}(D:EP b x v (y.1.1,y.1.2.1,y.1.2.2.1,j) r q s' x'):wN ((q,s',x',j),r)<wN y:=by
 have S:=D.st;have e:wN y=wT y.1.1 y.1.2.1:=by unfold wN;rw[h]
 show(e)▸?_;cases r with
 |true=>show(S.yes rfl).2.2.2
 |false=>show(S.no rfl).2.2.2
end
end
section
open PySem PySem.W PySem.Spec PySem.Calls PyProof.Rows
def Fv (g:Nat)(a c:Int)(o:Nat×Int):Nat×Int:=match g with|0=>o|1=>(1,a-1)|2=>(3,a+1)|3=>(2,c-1)|_=>(4,c+1)
abbrev VC (q:PS)(o:Nat×Int):PS:={q with gn:=o.1,gv:=o.2}
structure Dj (b bg:Bool) (f:FS) (p:QS) (a c:Int) (q:QS):Prop where
 g:(q.1.gn,q.1.gv)=Fv f.g a c (p.1.gn,p.1.gv)
 n:Gm b bg p a c (VC q.1 (p.1.gn,p.1.gv),q.2)
def rRes (a:AV)(σ:AC):List AV:=Option.rec [] (λi=>H7 (rO σ i)) (Es a)
def nO (b bg:Bool):Nat:=6+(fJ b bg QN).length
def yH (b:Bool)(f:FS)(p:Nat):AC:=(R5 b f p).take 4
def yI (b:Bool)(f:FS):AC:=[some (.inst HW 1),some (.ns [("flat",.ref 2),("search",.ref 6)])]++yH b f 2
def solS (b bg:Bool)(f:FS)(q:QS):AC:=yI b f++yG 6 (xz b bg q)
def yJ (b bg:Bool)(f:FS)(q:QS)(l:List El):AC:=yI b f++(yG 6 (fJ b bg q)++[some (.tl .pair l)])
def yK (bg:Bool)(σ:AC)(n:Nat):RQ:=((Ft bg (σ.drop 6) n).1,(Ft bg (σ.drop 6) n).2.1,(Ft bg (σ.drop 6) n).2.2.1)
abbrev yL (f:FS)(g:Nat):FS:={f with g:=g}
def rGix (σ:AC):Nat:=uc (rF (rO σ 3) "goal")
def JB (a c:Int):El:=⟨false,[],a,c,default⟩
def DX (b bg:Bool):Spec where
 P:=FS×QS
 d:=(Yo,QN)
 args:=λZ=>[.ref 0,.d (.int 1)]
 cells:=λp=>solS b bg p.1 p.2
 pre:=λp=>EJ b p.1/\AAK b bg p.2
 ext:=λZ σ=>(OQ σ 2,ub bg (σ.drop 6))
 outs:=[{Q:=RQ,d:=(eX,IT,eG),res:=λZ Z=>.ref (nO b bg),cells:=λp q=>yJ b bg p.1 (q.1,q.2.1,q.2.2,p.2.2.2.2) [],post:=λp q=>BE b bg p.2=[]/\q.1.ov,ext:=λZ Z σ=>yK bg σ (nX b bg),sel:=λa σ=>(rRes a σ).isEmpty},
  {Q:=Nat×(Int×Int)×RQ,d:=(0,(0,0),eX,IT,eG),res:=λZ Z=>.ref (nO b bg),cells:=λp q=>yJ b bg (yL p.1 q.1) (q.2.2.1,q.2.2.2.1,q.2.2.2.2,p.2.2.2.2) [JB q.2.1.1 q.2.1.2],post:=λp q=>q.1=p.1.g/\Dj b bg p.1 p.2 q.2.1.1 q.2.1.2 (q.2.2.1,q.2.2.2.1,q.2.2.2.2,p.2.2.2.2),
   ext:=λZ Z σ=>(rGix σ,(rI (Ae (DH (Ae (H7 (rO σ (nO b bg))) 0)) 0),rI (Ae (DH (Ae (H7 (rO σ (nO b bg))) 0)) 1)),yK bg σ (nX b bg)),sel:=yes}]
theorem lL {x y:Nat×Int}(h:x.1=y.1/\x.2=y.2):x=y:=Prod.ext h.1 h.2
def yM {b bg}{f}{p q}{a c}{k}{q'}(hk:f.g=k)(hn:Gm b bg p a c q)(hg:(q'.gn,q'.gv)=Fv k a c (p.1.gn,p.1.gv))(e:VC q' (q.1.gn,q.1.gv)=q.1):Dj b bg f p a c (q',q.2):=by
 show⟨hk▸hg,?_⟩;have h:VC q' (p.1.gn,p.1.gv)=q.1:=by rw[<-hn.g.1,<-hn.g.2];show e
 change Gm b bg p a c (VC q' (p.1.gn,p.1.gv),q.2);show(h)▸?_;show hn
theorem yN {b bg:Bool}{f:FS}{p q:QS}{a c:Int}(hk:f.g=0)(hn:Gm b bg p a c q):Dj b bg f p a c q:=yM (q':=q.1) hk hn (lL hn.g) rfl
def KV {b bg}{f}{j q1 q'}{s1 s}{u x}{v v'}{a c}{k}(cut:v'=v)(hk:f.g=k)(hn:Gm b bg (j,s1,u,v') a c (q1,s,x,v'))(hg:(q'.gn,q'.gv)=Fv k a c (j.gn,j.gv))(e:VC q' (q1.gn,q1.gv)=q1):
 Dj b bg f (j,s1,u,v) a c (q',s,x,v):=by
 subst cut;show yM hk hn hg e
def ft {b bg}{f}{j q1}{s1 s}{u x}{v v'}{a c:Int}(cut:v'=v)(hk:f.g=0)(hn:Gm b bg (j,s1,u,v') a c (q1,s,x,v')):Dj b bg f (j,s1,u,v) a c (q1,s,x,v):=by
 subst cut;show yN hk hn
def refO (σ:AC)(a:AV):AO:=Option.rec (.cell none) (λi=>rO σ i) (Es a)
def yO (i:Nat)(l:List AV)(σ:AC):Bool:=Nat.blt 1 (H7 (refO σ (rF (lA σ (Ae l i)) "tolds"))).length
def yP (l:List AV)(σ:AC):Bool×Bool:=fP [rF (lA σ (Ae l 0)) "search"] σ
def fu:List (Addr×Nat×Hl):=(A5,176,BZ (λi:Bool×Bool=>C7 i.1 i.2) fP)::(D0,121,BZ HG (yO 1))::Mf
def Zn:=Hx fu H6 Cv Bs De
def pI:List (Addr×Nat×Hl):=(Am,201,BZ (λi:Bool×Bool=>DX i.1 i.2) yP)::fu
abbrev Gn:=FS.mk
abbrev QO:=lJ.mk
structure Sm (a:Int):Prop where
 lo:0<=a
 hi:a<=3
def Ki (a c:Int):Str:=Txt.join "" [Di a," ",Di c]
def Mi:Spec where
 P:=Int×Int
 d:=(0,0)
 args:=λp=>[.d Mg,.d (.tup [.int p.1,.int p.2])]
 cells:=λZ=>[]
 pre:=λp=>Sm p.1/\Sm p.2
 ext:=λl Z=>(rI (Ae (DH (Ae l 1)) 0),rI (Ae (DH (Ae l 1)) 1))
 outs:=[{Q:=Str,d:="",res:=λZ q=>.d (.str q),cells:=λZ Z=>[],post:=λp q=>q=Ki p.1 p.2,ext:=λZ a Z=>rS a,sel:=yes}]
def pJ:List (Addr×Nat×Hl):=(Hy,41,MM Mi)::pI
def rfFs (k:Nat)(hg:Bool)(m:Int):List (Str×AV):=match k with|0=>[]|1=>[("has_goal",ba hg)]|2=>[("has_goal",ba hg),("most",.d (.int m))]|_=>[("has_goal",ba hg),("most",.d (.int m)),("some",.d .any)]
def yQ (k:Nat)(hg:Bool)(m:Int)(a:Nat):AO:=.ns (("flat",.ref 0)::("options",.ref 4)::("is_known",ba true)::("found",.ref a)::("solver",.ref 7)::rfFs k hg m)
def pK (b:Bool)(f:FS)(ns:AO):AC:=R5 b f 0++[some ns,some (.ns [("flat",.ref 0),("search",.ref 8)]),some (.inst HW 6)]
def nF (b:Bool):Nat:=8+nU b
def nR (b:Bool):Nat:=nF b+1
def ud (b:Bool)(k:Nat)(hg:Bool)(m:Int)(l:List El)(f:FS)(q:QS):AC:=pK b f (yQ k hg m (nF b))++(yG 8 (xz b false q)++[some (.tl .pair l)])
def s5 (σ:AC):FS×QS:=(OQ σ 0,ub false (σ.drop 8))
def BW (g:Nat):Bool:=!(Nat.beq g 0)
def s6 (b:Bool):CU where
 n:=nR b
 P:=FS×QS
 d:=(Yo,QN)
 pre:=λp=>ud b 0 false 0 [] p.1 p.2
 ext:=s5
 Q:=Nat×Bool
 e:=(0,false)
 cells:=λp q=>ud b 1 q.2 0 [] (yL p.1 q.1) p.2
 rel:=λp q=>q.1=p.1.g/\q.2=BW p.1.g
 extQ:=λZ σ=>(uc (rF (rO σ 1) "goal"),rB (rF (rO σ 5) "has_goal"))
def DD (hg:Bool)(o:Nat):Int:=Bool.rec (Bg o) 0 (hg||Az o)
def VD (b:Bool):CU where
 n:=nR b
 P:=Bool×FS×QS
 d:=(false,Yo,QN)
 pre:=λp=>ud b 1 p.1 0 [] p.2.1 p.2.2
 ext:=λσ=>(rB (rF (rO σ 5) "has_goal"),s5 σ)
 Q:=Int×Unit
 e:=(0,())
 cells:=λp q=>ud b 2 p.1 q.1 [] p.2.1 p.2.2
 rel:=λp q=>q.1=DD p.1 p.2.1.o
 extQ:=λZ σ=>(rI (rF (rO σ 5) "most"),())
def Au (g:Nat)(y x:Int×Int):Bool:=match g with|1=>decide (x.1<y.1)|2=>decide (x.1>y.1)|3=>decide (x.2<y.2)|_=>decide (x.2>y.2)
def Bl (g:Nat)(o:Option (Int×Int))(l:List (Int×Int)):List (Int×Int):=match l with|[]=>[]|x::l=>match o with|none=>x::Bl g (some x) l|some y=>Bool.rec (Bl g (some y) l) (x::Bl g (some x) l) (Au g y x)
def Fw (l:List (Int×Int)):List (Int×Int):=l.drop (l.length-1)
def BJ (g o:Nat)(S:List (Int×Int)):List (Int×Int)×Bool:=
 Bool.rec (Bool.rec (S.take (Bg o).toNat,decide ((S.length:Int)<Bg o)) (S,true) (Az o)) (Bool.rec (Fw (Bl g none S)) (Bl g none S) (Az o),true) (BW g)
def BK (l:List El):List (Int×Int):=l.map λe=>(e.v,e.w)
structure yR (g o:Nat) (F R S:List (Int×Int)):Prop where
 sat:BW g=false->F++R=S
 all:BW g->Az o->F++Bl g none R=Bl g none S
 one:BW g->Az o=false->Fw (F++Bl g none R)=Fw (Bl g none S)/\F.length<=1
abbrev RP:=(Bool×Int)×FS×QS×List El
structure AN (b w:Bool) (p₀ p:RP):Prop where
 h:p.1=p₀.1
 fg:p.2.1.g=p₀.2.1.g
 fo:p.2.1.o=p₀.2.1.o
 ok:EJ b p.2.1
 pre:AAK b w p.2.2.1
 gn:p.2.2.1.1.gn=0∨p.2.2.1.1.gn=(Fv p₀.2.1.g 0 0 (0,0)).1
 fin:yR p₀.2.1.g p₀.2.1.o (BK p.2.2.2) (BE b w p.2.2.1) (BE b false p₀.2.2.1)
 len:p₀.1.2≠0->(p.2.2.2.length:Int)<=p₀.1.2
 nil:w=false->p.2.2.2=[]
def rtC (b:Bool)(p:RP):AC:=pK b p.2.1 (yQ 3 p.1.1 p.1.2 (nR b+8))++(yG 8 (K2 b true p.2.2.1 (nU b+1) (nU b+2) (nU b+7) (nU b+3) (nU b+4) (nU b+5) (nU b+6))++(none::(NL p.2.2.1++[some (.inst Bz (nR b+7)),some Ya,some (.tl .pair p.2.2.2)])))
def fv (b w:Bool)(p:RP):AC:=match w with|false=>ud b 2 p.1.1 p.1.2 p.2.2.2 p.2.1 p.2.2.1|true=>rtC b p
def s7 (b w:Bool)(σ:AC):RP:=match w with|false=>((rB (rF (rO σ 5) "has_goal"),rI (rF (rO σ 5) "most")),OQ σ 0,ub false (σ.drop 8),Ce .pair (rO σ (nF b)))|true=>((rB (rF (rO σ 5) "has_goal"),rI (rF (rO σ 5) "most")),OQ σ 0,(sg (σ.drop 8) (nU b+1) (nU b+2),OI (σ.drop 8) 6 (nU b+3) (nU b+4) (nU b+5) (nU b+6)),Ce .pair (rO σ (nR b+8)))
def Pu (b:Bool):Ex where
 P:=RP
 d:=((false,0),Yo,QN,[])
 n:=nR b
 cells:=fv b
 inv:=AN b
 meas:=λw p=>(BE b w p.2.2.1).length
 ext:=s7 b
 alt:=λσ=>rB (rF (rO σ 9) "is_begun")
def Ba:AV:=.d .any
def rwC (b:Bool)(fr:List (Str×AV))(ov:Bool)(l:AC):AC:=[some (.inst Gk 1),some (.ns [("vars",Ba),("tolds",Ba),("goal",Ba),("shown",.d Mg)]),none,none,none,
 some (.ns (("flat",.ref 0)::("options",Ba)::("is_known",ba true)::("found",.ref (nR b))::("solver",.ref 7)::("has_goal",Ba)::("most",Ba)::("some",Ba)::fr)),some (.ns [("flat",Ba),("search",.ref 8)]),some (.inst HW 6),some (.inst Ku 9),
 some (.ns [("engine",Ba),("store",Ba),("brancher",Ba),("base",Ba),("rest",Ba),("path",Ba),("refuted",Ba),("learner",Ba),("goal",Ba),("is_begun",Ba),("is_over",ba ov),("is_answered",Ba),("fail_limit",Ba),("restart_unit",Ba),("nodes",Ba),("fails",Ba),("restarts",Ba),("since",Ba)])]++(Pk (nR b-10)++l)
def TryR (b:Bool)(p:(Bool×Int)×FS×QS)(q:List El×Bool):=(BK q.1,q.2)=BJ p.2.1.g p.2.1.o (BE b false p.2.2)
def fw (b:Bool):CU where
 n:=nR b
 P:=(Bool×Int)×FS×QS
 d:=((false,0),Yo,QN)
 pre:=λp=>ud b 2 p.1.1 p.1.2 [] p.2.1 p.2.2
 ext:=λσ=>((rB (rF (rO σ 5) "has_goal"),rI (rF (rO σ 5) "most")),s5 σ)
 Q:=List El×Bool
 e:=([],false)
 cells:=λZ q=>rwC b [] q.2 [some (.tl .pair q.1)]
 rel:=TryR b
 extQ:=λZ σ=>(Ce .pair (rO σ (nR b)),rB (rF (rO σ 9) "is_over"))
def pL (b:Bool)(line:Nat):Option (AC->CU):=Bool.rec (Bool.rec (Bool.rec none (some λZ=>fw b) (Nat.beq line 2664)) (some λZ=>VD b) (Nat.beq line 2663)) (some λZ=>s6 b) (Nat.beq line 2662)
def AAZ (s:Str):El:=⟨false,[],0,0,s⟩
def yS (b w:Bool):List (Str×AV):=match w with|false=>[("rows",.ref (nR b+1))]|true=>[("rows",.ref (nR b+1)),("answer",Ba)]
def Yp (o:AO):Nat:=Option.rec 0 (λx=>x.2) (HO o)
def OR (l:List El):List El:=l.flatMap λe=>[AAZ (Ki e.v e.w),AAZ "----------"]
abbrev OP:=Bool×List El×List El×Nat
structure Mj (p₀ p:OP):Prop where
 ov:p.1=p₀.1
 l:p.2.1=p₀.2.1
 i:p.2.2.2<=p.2.1.length
 r:p.2.2.1=OR (p.2.1.take p.2.2.2)
def HH (b:Bool):Ex where
 P:=OP
 d:=(false,[],[],0)
 n:=nR b+3
 cells:=λw p=>rwC b (yS b w) p.1 [some (.tl .pair p.2.1),some (.tl .str p.2.2.1),some (.liter (nR b) p.2.2.2)]
 inv:=λZ=>Mj
 meas:=λZ p=>p.2.1.length-p.2.2.2
 ext:=λZ σ=>(rB (rF (rO σ 9) "is_over"),Ce .pair (rO σ (nR b)),Ce .str (rO σ (nR b+1)),Yp (rO σ (nR b+2)))
 alt:=λσ=>FH σ 5 "answer"
def pM (b:Bool)(line:Nat):Option Hk:=Bool.rec (Bool.rec none (some (.kinds (HH b))) (Nat.beq line 2674)) (some (.kinds (Pu b))) (Nat.beq line 2666)
def ZR (b:Bool):=Hx pJ H6 (pM b) (pL b) De
def Mk (e w:Bool):List Str:=Bool.rec (Bool.rec [] ["=====UNKNOWN====="] e) (Bool.rec ["=========="] ["=====UNSATISFIABLE====="] e) w
def Dm (x:List (Int×Int)×Bool):List Str:=(x.1.flatMap λp=>[Ki p.1 p.2,"----------"])++Mk x.1.isEmpty x.2
def B7 (b:Bool)(f:FS):List (Int×Int):=BE b false (W1 b f)
structure EL (b:Bool) (f:FS):Prop where
 ok:EJ b f
 a0:0<=f.a0
 b0:f.h0<=3
 a1:0<=f.a1
 b1:f.h1<=3
 c0:0<=f.t0.c/\f.t0.c<=10
 c1:b->0<=f.t1.c/\f.t1.c<=10
def JC (b:Bool):Spec where
 P:=FS
 d:=Yo
 args:=λZ=>[.ref 0,.ref 4]
 cells:=λf=>R5 b f 0
 pre:=EL b
 ext:=λZ σ=>OQ σ 0
 outs:=[{Q:=List El,d:=[],res:=λZ Z=>.ref 5,cells:=λZ q=>Pk 5++[some (.tl .str q)],post:=λf q=>q.map (·.s)=Dm (BJ f.g f.o (B7 b f)),ext:=λZ Z σ=>Ce .str (rO σ 5),sel:=yes}]
def ZT20:=Hx [] [] Cv Bs none
end
section
open PySem PySem.W
theorem Sm.small {a}(h:Sm a):small a:=⟨by have:=h.lo;omega,by have:=h.hi;omega⟩
def Ml {P:Int->Prop}(h0:P 0)(h1:P 1)(b:P 2)(h3:P 3){a:Int}(h:Sm a):P a:=by
 have:=h.lo;have:=h.hi
 rcases(by lia:a=0∨a=1∨a=2∨a=3) with rfl|rfl|rfl|rfl
 · show h0
 · show h1
 · show b
 · show h3
theorem Mm {P:Int->Int->Prop}(h:∀a∈([0,1,2,3]:List Int),∀c∈([0,1,2,3]:List Int),P a c){a c:Int}(b:Sm a)(hc:Sm c):P a c:=
 h a (Ml (P:=(· ∈([0,1,2,3]:List Int))) ∅ ∅ ∅ ∅ b) c (Ml (P:=(· ∈([0,1,2,3]:List Int))) ∅ ∅ ∅ ∅ hc)
theorem lM {a c:Int}(b:Sm a)(hc:Sm c):JoinOk "" [Di a," ",Di c]:=Mm (P:=λa c=>JoinOk "" [Di a," ",Di c]) (by decide+kernel) b hc
def fz {K G:Int->Int->Bool}{b:Int->Int->Bool}(h:∀a c,b a c=(K a c&&G a c)) d:E6 b d=(E6 K d).filter λp=>G p.1 p.2:=by
 unfold E6;rw[List.filter_filter];show uP λp Z=>?_;rw[h,Bool.and_comm (G p.1 p.2),pe]
def gA {K G:Int->Int->Bool}{b:Int->Int->Bool}(h:∀a c,b a c=(K a c&&G a c)) l:Fd b l=(Fd K l).filter λp=>G p.1 p.2:=by
 induction l with
 |nil=>rfl
 |cons d l ih=>
  change E6 b d++Fd b l=(E6 K d++Fd K l).filter _;rw[List.filter_append,ih,fz h]
def gB {K}{l}{p}(h:p∈Fd K l):K p.1 p.2/\p∈I4:=by
 induction l with
 |nil=>ext h
 |cons d l ih=>
  rcases List.mem_append.mp h with h|h
  · obtain⟨h1,a⟩:=List.mem_filter.mp h;show⟨(DQ.mp a).2,h1⟩
  · show ih h
def JD {b bg}{p}{x}(h:x∈BE b bg p):KG (CO b p.2.2.2) p.1 x.1 x.2/\x∈I4:=by
 cases bg with
 |true=>show gB h
 |false=>show let ⟨h1,a⟩:=List.mem_filter.mp h;⟨(DQ.mp a).2,h1⟩
def Pw {x}(h:x∈I4):Sm x.1/\Sm x.2:=by
 have:∀x∈I4,(0<=x.1/\x.1<=3)/\(0<=x.2/\x.2<=3):=by decide+kernel
 obtain⟨⟨a,b⟩,c,d⟩:=this x h;show⟨⟨a,b⟩,c,d⟩
theorem JE p:(BE b false p).length<=16:=EX (List.length_filter_le ..) (by decide+kernel)
def Yq {g}(hg:BW g)(x o:Int×Int)(a c:Int):gK (Fv g x.1 x.2 (o.1.toNat,o.2)).1 (Fv g x.1 x.2 (o.1.toNat,o.2)).2 a c=Au g x (a,c):=by
 match g with
 |0=>ext hg
 |1=>show uR.mpr (by change a<=x.1-1<->a<x.1;lia)
 |2=>show uR.mpr (by change a≥x.1+1<->a>x.1;lia)
 |3=>show uR.mpr (by change c<=x.2-1<->c<x.2;lia)
 |_+4=>show uR.mpr (by change c≥x.2+1<->c>x.2;lia)
def Px {g}{x y z}(h:Au g x y)(h':Au g y z):Au g x z:=by
 match g with
 |1=>show Fy (Int.lt_trans (AAL h') (AAL h))
 |2=>show Fy (Int.lt_trans (AAL h) (AAL h'))
 |3=>show Fy (Int.lt_trans (AAL h') (AAL h))
 |0=>show Fy (Int.lt_trans (AAL h) (AAL h'))
 |_+4=>show Fy (Int.lt_trans (AAL h) (AAL h'))
def gC {g}(hg:BW g){n}{v:Int}(hn:n=0∨n=(Fv g 0 0 (0,0)).1){x}(hx:gK n v x.1 x.2){a c:Int}(h:Au g x (a,c)):gK n v a c:=by
 rcases hn with rfl|rfl
 · rfl
 · match g with
   |0=>ext hg
   |1=>
    have h1:x.1<=v:=AAL hx;have b:a<x.1:=AAL h;show Fy (by change a<=v;lia)
   |2=>
    have h1:x.1≥v:=AAL hx;have b:a>x.1:=AAL h;show Fy (by change a≥v;lia)
   |3=>
    have h1:x.2<=v:=AAL hx;have b:c<x.2:=AAL h;show Fy (by change c<=v;lia)
   |_+4=>
    have h1:x.2≥v:=AAL hx;have b:c>x.2:=AAL h;show Fy (by change c≥v;lia)
def OS {g}(hg:BW g)(a:Int)(c:Int) o:(Fv g a c o).1=(Fv g 0 0 (0,0)).1:=by
 match g with
 |0=>ext hg
 |1=>rfl
 |2=>rfl
 |3=>rfl
 |_+4=>rfl
def Py {g}(hg:BW g=false) a c o:Fv g a c o=o:=by
 match g with
 |0=>rfl
 |_+1=>ext hg
def s8 {g}(hg:BW g)(x:Int×Int)(o:Nat×Int)(a c:Int):gK (Fv g x.1 x.2 o).1 (Fv g x.1 x.2 o).2 a c=Au g x (a,c):=by
 have:=Yq hg x ((o.1:Int),o.2) a c;show this
section
variable {b bg:Bool}{f:FS}{p q:QS}{a c:Int}
def Dj.pre (h:Dj b bg f p a c q)(hg:BW f.g->f.g<5):AAK b true q:=by
 obtain⟨h1,g,h3⟩:=h.n;have e:(q.1.gn,q.1.gv)=Fv f.g a c (p.1.gn,p.1.gv):=h.g;have ok:U0 q.1:=by
  cases z:BW f.g with
  |false=>
   rw[Py z] at e;cases h1.1;cases h1.2;have k:=h3.g;have e1:q.1.gn=p.1.gn:=congrArg Prod.fst e;have d:q.1.gv=p.1.gv:=congrArg Prod.snd e;show⟨e1▸k.lt,λz=>d.trans (k.z (e1▸z))⟩
  |true=>
   have e1:q.1.gn=(Fv f.g 0 0 (0,0)).1:=(congrArg Prod.fst e).trans (OS z _ _ _);have e1:0<q.1.gn/\q.1.gn<5:=by
    rw[e1]
    match f.g,z with
    |1,_=>show⟨∅,∅⟩
    |2,_=>show⟨∅,∅⟩
    |3,_=>show⟨∅,∅⟩
    |_+4,_=>show⟨(show 0<4 from by decide),(show 4<5 from by decide)⟩
   show⟨e1.2,λz=>by rw[z] at e1;show absurd e1.1 (Zq _)⟩
 show⟨ok,h3.ov,h3.vs,h3.one,λe=>(nomatch e),λZ=>let t:=h3.t rfl;⟨ok,t.st,t.ph⟩⟩
def Dj.rem (h:Dj b bg f p a c q)(hv:q.2.2.2=p.2.2.2)(hn:p.1.gn=0∨p.1.gn=(Fv f.g 0 0 (0,0)).1):
 ∃R,BE b bg p=(a,c)::R/\BE b true q=Bool.rec R (R.filter (Au f.g (a,c))) (BW f.g):=by
 obtain⟨h1,d,h3⟩:=h.n;show⟨_,d,?_⟩;have e:(q.1.gn,q.1.gv)=Fv f.g a c (p.1.gn,p.1.gv):=h.g;have e1:q.1.gn=(Fv f.g a c (p.1.gn,p.1.gv)).1:=congrArg Prod.fst e;have g:q.1.gv=(Fv f.g a c (p.1.gn,p.1.gv)).2:=congrArg Prod.snd e;change Jx (CO b q.2.2.2) q.1 q.2.1=_;rw[hv];cases z:BW f.g with
 |false=>
  change _=Jx (CO b p.2.2.2) (VC q.1 (p.1.gn,p.1.gv)) q.2.1;unfold Jx;show congrArg (λK=>Fd K _) ?_
  funext x y
  unfold KG;rw[e1,g,Py z]
 |true=>
  change _=(Fd (KG (CO b p.2.2.2) (VC q.1 (p.1.gn,p.1.gv))) (ag q.1.pa q.2.1)).filter λw=>Au f.g (a,c) (w.1,w.2);have hx:gK p.1.gn p.1.gv a c:=by
   have:=(JD (b:=b) (bg:=bg) (p:=p) (x:=(a,c)) (by rw[d];show Sg ..)).1;show(DQ.mp this).2
  show gA (G:=λx y=>Au f.g (a,c) (x,y)) (λx y=>?_) _;unfold KG;rw[e1,g];have i:=s8 z (a,c) (p.1.gn,p.1.gv) x y;rw[i];cases w:Au f.g (a,c) (x,y) with
  |false=>rw[pk,pk]
  |true=>
   rw[jL,jL];change _=(CO b p.2.2.2 x y&&gK p.1.gn p.1.gv x y)
   rw[gC z hn (x:=(a,c)) hx w,jL]
end
def Yr {g}{y}{l}:∀ {x:Int×Int},(∀z,Au g x z->Au g y z)->Bl g (some x) (l.filter (Au g y))=Bl g (some x) l:=by
 induction l with
 |nil=>intro x _;rfl
 |cons z l ih=>
  intro x hx;rw[nB];change _=(Bool.rec (Bl g (some x) l) (z::Bl g (some z) l) (Au g x z):List (Int×Int))
  cases e:Au g x z with
  |true=>
   rw[if_pos (hx z e)];change (Bool.rec (Bl g (some x) (l.filter (Au g y))) (z::Bl g (some z) (l.filter (Au g y))) (Au g x z):List (Int×Int))=_;rw[e];show congrArg (z:: ·) (ih λw a=>hx w (Px e a))
  |false=>
   by_cases q:Au g y z
   · rw[if_pos q];change (Bool.rec (Bl g (some x) (l.filter (Au g y))) (z::Bl g (some z) (l.filter (Au g y))) (Au g x z):List (Int×Int))=_;rw[e];show ih hx
   · rw[if_neg q];show ih hx
def OT {g}{y} l:Bl g (some y) l=Bl g none (l.filter (Au g y)):=by
 rw[<-Yr (x:=y) λZ h=>h];cases e:l.filter (Au g y) with
 |nil=>rfl
 |cons x t=>
  have:Au g y x:=(List.mem_filter.mp (e▸Sg .. :x∈l.filter (Au g y))).2;change (Bool.rec (Bl g (some y) t) (x::Bl g (some x) t) (Au g y x):List (Int×Int))=_;rw[this];rfl
def Ys F x t:Fw (F++x::t)=Fw (x::t):=by
 unfold Fw;rw[List.drop_append,List.drop_eq_nil_of_le (by simp),List.nil_append,JT,Zh]
 congr 1
 lia
def Yt {F}(h:F.length<=1):Fw F=F:=by
 unfold Fw;rw[Nat.sub_eq_zero_of_le h];rfl
def R7 {g}{l}:∀ {o:Option (Int×Int)} {x},x∈Bl g o l->x∈l:=by
 induction l with
 |nil=>intro o x h;show h
 |cons y l ih=>
  intro o x h;have k:∀ {z},x∈z::Bl g (some z) l->z=y->x∈y::l:=λk e=>by
   subst e
   rcases QP.mp k with q|q
   · rw[q];show Sg ..
   · show Zo _ (ih q)
  cases o with
  |none=>show k h rfl
  |some w=>
   have h:x∈(Bool.rec (Bl g (some w) l) (y::Bl g (some y) l) (Au g w y):List (Int×Int)):=h;cases e:Au g w y with
   |true=>rw[e] at h;show k h rfl
   |false=>rw[e] at h;show Zo _ (ih h)
def Mn {g}{l}:∀ {o:Option (Int×Int)},(Bl g o l).length<=l.length:=by
 induction l with
 |nil=>intro o;show QJ _
 |cons y l ih=>
  intro o;cases o with
  |none=>show my ih
  |some w=>
   change (Bool.rec (Bl g (some w) l) (y::Bl g (some y) l) (Au g w y):List (Int×Int)).length<=_;cases Au g w y with
   |true=>show my ih
   |false=>show Nat.le_succ_of_le ih
theorem OU {a c:Int}(h0:0<=a)(h1:a<=c)(b:c<=3):Aq [(a,c)]:=
 Mm (P:=λa c=>a<=c->Aq [(a,c)]) (by unfold Aq;decide+kernel) ⟨h0,Int.le_trans h1 b⟩ ⟨Int.le_trans h0 h1,b⟩ h1
def gD b {f}(hp:EL b f):AAK b false (W1 b f):=by
 have g0:Aq [(f.a0,f.h0)]:=OU hp.a0 hp.ok.d0 hp.b0;have g1:Aq [(f.a1,f.h1)]:=OU hp.a1 hp.ok.d1 hp.b1;have k:∀t:lJ,t.n<3/\t.m<3->kT t<9:=λt h=>by have:=h.1;have:=h.2;change 3 * t.n+t.m<9;lia
 have sz:=Nat.add_le_add (K3 g0) (K3 g1);show⟨⟨Nat.succ_pos 4,λZ=>rfl⟩,rfl,?_,?_,λZ=>⟨⟨⟨⟨g0,g1,QQ _,QQ _⟩,nofun,nofun,nofun,nofun,Nat.le_succ 1,Nat.le_succ 1⟩,rfl,(by change 0+(AM [(f.a0,f.h0)]+AM [(f.a1,f.h1)])<=100;lia)⟩,rfl,rfl,rfl,(⟨rfl,λe=>e⟩:_/\_)⟩,nofun⟩
 · cases b with|false=>show⟨⟨k _ hp.ok.t0,hp.c0.1,hp.c0.2⟩,nofun,λZ=>⟨rfl,rfl⟩⟩|true=>show⟨⟨k _ hp.ok.t0,hp.c0.1,hp.c0.2⟩,λZ=>⟨k _ (hp.ok.t1 rfl),(hp.c1 rfl).1,(hp.c1 rfl).2⟩,nofun⟩
 · show⟨λe=>e,λe=>e⟩
structure J2 (b:Bool) (f0 f:FS) (q:QS):Prop where
 g:f.g=f0.g
 o:f.o=f0.o
 ok:EJ b f
 pre:AAK b false q
 rem:BE b false q=B7 b f0
 gn:q.1.gn=0
section
variable {b:Bool}{f0 f f':FS}{q:QS}
def J2.first (hp:EL b f0)(h:q=W1 b f0):J2 b f0 f0 q:=by subst h;show⟨rfl,rfl,hp.ok,gD b hp,rfl,rfl⟩
def J2.ch (A:J2 b f0 f q)(ok:EJ b f')(hg:f'.g=f.g)(ho:f'.o=f.o){V}(hV:V=q.2.2.2):J2 b f0 f' (q.1,q.2.1,q.2.2.1,V):=by
 subst hV;show⟨hg.trans A.g,ho.trans A.o,ok,A.pre,A.rem,A.gn⟩
def J2.eq (h:x=(f,q))(A:J2 b f0 f q):J2 b f0 x.1 x.2:=by subst h;show A
def CP {f}(h:EJ b f){g o}(hg:g=f.g)(ho:o<5):EJ b (Gn f.a0 f.h0 f.a1 f.h1 g o f.t0 f.t1):=by subst hg;show⟨h.d0,h.d1,h.g,ho,h.t0,h.t1⟩
def CQ {f}(h:EJ false f){g o}(hg:g=f.g)(ho:o<5):EJ false (Gn f.a0 f.h0 f.a1 f.h1 g o f.t0 (QO 0 0 0)):=by subst hg;show⟨h.d0,h.d1,h.g,ho,h.t0,nofun⟩
structure VE (b:Bool) (f0:FS) (h:Bool×Int) (f:FS) (q:QS):Prop extends J2 b f0 f q where
 hg:h.1=BW f0.g
 m:h.2=DD (BW f0.g) f0.o
theorem VE.inv (A:VE b f0 p.1 p.2.1 p.2.2.1)(e:p.2.2.2=[]):AN b false p p:=
 ⟨rfl,rfl,rfl,A.ok,A.pre,.inl A.gn,by rw[e];show⟨λZ=>rfl,λZ Z=>rfl,λZ Z=>⟨rfl,QQ _⟩⟩,λh=>by
   rw[e,A.m];unfold DD;cases BW f0.g||Az f0.o with
   |true=>show Int.le_refl 0
   |false=>show Int.le_trans ∅ (DT f0.o),λZ=>e⟩
theorem K5 l a c:BK (l++[JB a c])=BK l++[(a,c)]:=Zf
end
section
variable {b w:Bool}{f0:FS}{p₀ p:RP}(A:VE b f0 p₀.1 p₀.2.1 p₀.2.2.1)(I:AN b w p₀ p)
include A I
def AN.hg:p.1.1=BW p₀.2.1.g:=by rw[I.h,A.hg,A.g]
def AN.ml:(p.1.2==0)=true∨decide ((p.2.2.2.length:Int)<p.1.2)->p₀.1.2≠0->(p.2.2.2.length:Int)<p₀.1.2:=by
 rw[I.h]
 rintro(h|h) h'
 · show absurd (eq_of_beq h) h'
 · show AAL h
def AN.flen:p.2.2.2.length<=16:=by
 have h:=JE (b:=b) p₀.2.2.1;have e:(BK p.2.2.2).length=p.2.2.2.length:=Ei ..;rw[<-e];cases z:BW p₀.2.1.g with
 |false=>
  have:=congrArg List.length (I.fin.sat z);rw[JT] at this;lia
 |true=>
  cases y:Az p₀.2.1.o with
  |true=>
   have:=congrArg List.length (I.fin.all z y);rw[JT] at this;have:=Mn (g:=p₀.2.1.g) (o:=none) (l:=BE b false p₀.2.2.1);lia
  |false=>show EX (I.fin.one z y).2 ∅
variable {f1 f':FS}{V:VS}(hV:V=p.2.2.1.2.2.2){a c:Int}{q1:PS}{s:SS}{x:ES}(R:Dj b w f1 (p.2.2.1.1,p.2.2.1.2.1,p.2.2.1.2.2.1,V) a c (q1,s,x,V))(h1:f1.g=p.2.1.g)
include hV R h1
def AN.rem:∃T,BE b w p.2.2.1=(a,c)::T/\BE b true (q1,s,x,V)=Bool.rec T (T.filter (Au p₀.2.1.g (a,c))) (BW p₀.2.1.g):=by
 subst hV;have:=R.rem rfl (by rw[h1,I.fg];show I.gn);rw[h1,I.fg] at this;show this
def AN.meas:(BE b true (q1,s,x,V)).length<(BE b w p.2.2.1).length:=by
 show AH (AN.rem A I hV R h1) λT e1 a=>?_;rw[e1,a,Zh];show Nat.lt_succ_of_le ?_;cases BW p₀.2.1.g with
 |false=>show QJ _
 |true=>show List.length_filter_le ..
def AN.gnq:q1.gn=0∨q1.gn=(Fv p₀.2.1.g 0 0 (0,0)).1:=by
 have e:(q1.gn,q1.gv)=Fv f1.g a c (p.2.2.1.1.gn,p.2.2.1.1.gv):=R.g;rw[h1,I.fg] at e;cases z:BW p₀.2.1.g with
 |false=>rw[Py z] at e;rw[show q1.gn=p.2.2.1.1.gn from congrArg Prod.fst e];show I.gn
 |true=>show .inr ((congrArg Prod.fst e).trans (OS z _ _ _))
theorem AN.preq:AAK b true (q1,s,x,V):=R.pre λZ=>by rw[h1];show I.ok.g
variable (hf:f'.g=p.2.1.g)(ho:f'.o=p.2.1.o)(ok:EJ b f')
include hf ho ok
def AN.add (hx:Az p.2.1.o=true∨p.1.1=false)(hm:(p.1.2==0)=true∨decide ((p.2.2.2.length:Int)<p.1.2)):AN b true p₀ ((p.1.1,p.1.2),f',(q1,s,x,V),p.2.2.2++[JB a c]):=by
 show AH (AN.rem A I hV R h1) λT e1 d=>?_;show⟨I.h,hf.trans I.fg,ho.trans I.fo,ok,AN.preq A I hV R h1,AN.gnq A I hV R h1,?_,λh=>?_,nofun⟩
 · have d:BE b true (q1,s,x,V)=_:=d;change yR _ _ (BK (p.2.2.2++[JB a c])) (BE b true (q1,s,x,V)) _;rw[K5];show⟨λz=>?_,λz y=>?_,λz y=>?_⟩
   · rw[d,z,pj,<-I.fin.sat z,e1];rfl
   · rw[d,z,pj,<-I.fin.all z y,e1];change _=BK p.2.2.2++(a,c)::Bl _ (some (a,c)) T;rw[OT T];rfl
   · rcases hx with hx|hx
     · rw[I.fo,y] at hx;ext hx
     · rw[AN.hg A I,z] at hx;ext hx
 · have:=AN.ml A I hm h;change ((p.2.2.2++[JB a c]).length:Int)<=_;rw[JT];change ((p.2.2.2.length+1:Nat):Int)<=_;lia
def AN.new (hx:Az p.2.1.o=false)(hg:p.1.1):AN b true p₀ ((p.1.1,p.1.2),f',(q1,s,x,V),[JB a c]):=by
 show AH (AN.rem A I hV R h1) λT e1 d=>?_;show⟨I.h,hf.trans I.fg,ho.trans I.fo,ok,AN.preq A I hV R h1,AN.gnq A I hV R h1,?_,λh=>?_,nofun⟩
 · have d:BE b true (q1,s,x,V)=_:=d;have z:BW p₀.2.1.g:=by rw[<-AN.hg A I,hg]
   have y:Az p₀.2.1.o=false:=by rw[<-I.fo,hx]
   show⟨λf=>?_,λZ g=>?_,λZ Z=>⟨?_,QJ _⟩⟩
   · rw[z] at f;ext f
   · rw[y] at g;ext g
   · change Fw ([(a,c)]++Bl _ none (BE b true (q1,s,x,V)))=_;rw[d,z,<-(I.fin.one z y).1,e1];change _=Fw (BK p.2.2.2++(a,c)::Bl _ (some (a,c)) T);rw[Ys,OT T];rfl
 · exfalso
   show h ?_;rw[A.m];unfold DD;rw[<-A.hg,<-congrArg Prod.fst I.h,hg];rfl
end
section
variable {b w:Bool}{f0:FS}{p₀ p:RP}{p6:(Bool×Int)×FS×QS}(A6:VE b f0 p6.1 p6.2.1 p6.2.2)(A:VE b f0 p₀.1 p₀.2.1 p₀.2.2.1)(I:AN b w p₀ p)
include A6 A I
def FI (hV:V=p.2.2.1.2.2.2)(h:BE b w (p.2.2.1.1,p.2.2.1.2.1,p.2.2.1.2.2.1,V)=[]/\ov=true)(hm:(p.1.2==0)=true∨decide ((p.2.2.2.length:Int)<p.1.2)=true):
 (BK p.2.2.2,ov)=BJ p6.2.1.g p6.2.1.o (BE b false p6.2.2):=by
 subst hV;obtain⟨h,rfl⟩:=h;have h:BE b w p.2.2.1=[]:=h;have F:=I.fin;rw[h,A.rem,A.g,A.o] at F;rw[A6.g,A6.o,A6.rem];unfold BJ;cases z:BW f0.g with
 |false=>
  have e:=F.sat z;rw[XW] at e;cases y:Az f0.o with
  |true=>rw[e]
  |false=>
   have m:p₀.1.2=Bg f0.o:=by rw[A.m];unfold DD;rw[z,y];rfl
   have k:=AN.ml A I hm (by rw[m];have:=DT f0.o;lia);rw[m] at k;have a:(B7 b f0).length=p.2.2.2.length:=by rw[<-e];show Ei ..
   change _=((B7 b f0).take (Bg f0.o).toNat,decide (((B7 b f0).length:Int)<Bg f0.o))
   rw[jO (by rw[a];lia),e,Fy (by rw[a];show k)]
 |true=>
  cases y:Az f0.o with
  |true=>
   have e:=F.all z y;rw[show Bl f0.g none []=[] from rfl,XW] at e;change _=(Bl f0.g none (B7 b f0),true)
   rw[e]
  |false=>
   obtain⟨e,hl⟩:=F.one z y;rw[show Bl f0.g none []=[] from rfl,XW,Yt hl] at e;change _=(Fw (Bl f0.g none (B7 b f0)),true)
   rw[e]
def R8 (h0:(p.1.2==0)=false)(h1:decide ((p.2.2.2.length:Int)<p.1.2)=false):(BK p.2.2.2,p.2.2.1.1.ov)=BJ p6.2.1.g p6.2.1.o (BE b false p6.2.2):=by
 have F:=I.fin;rw[A.rem,A.g,A.o] at F;rw[A6.g,A6.o,A6.rem];have h0:p₀.1.2≠0:=by rw[<-congrArg Prod.snd I.h];show λe=>by rw[e] at h0;ext h0
 have l:=I.len h0;have h1:=NT h1;rw[I.h] at h1;have m:=A.m;unfold DD at m;cases z:BW f0.g with
 |true=>rw[z] at m;show absurd m h0
 |false=>
  cases y:Az f0.o with
  |true=>rw[z,y] at m;show absurd m h0
  |false=>
   rw[z,y] at m;have m:p₀.1.2=Bg f0.o:=m;rw[m] at l h1;have e:=F.sat z;have a:(BK p.2.2.2).length=(Bg f0.o).toNat:=by
    have:(BK p.2.2.2).length=p.2.2.2.length:=Ei ..
    omega
   unfold BJ;rw[z,y];change _=((B7 b f0).take (Bg f0.o).toNat,decide (((B7 b f0).length:Int)<Bg f0.o))
   rw[<-e,<-a,List.take_left,I.pre.ov,Zr];rw[JT];have:=DT f0.o
   omega
def OV (a:w=false)(h0:(p.1.2==0)=false)(h1:decide ((p.2.2.2.length:Int)<p.1.2)=false):False:=by
 have h0:p₀.1.2≠0:=by rw[<-congrArg Prod.snd I.h];show λe=>by rw[e] at h0;ext h0
 have h1:=NT h1;rw[I.nil a,I.h] at h1;have m:=A.m;unfold DD at m;have:=DT f0.o;cases z:(BW f0.g||Az f0.o) with
 |true=>rw[z] at m;show h0 m
 |false=>
  rw[z] at m;have m:p₀.1.2=Bg f0.o:=m;rw[m] at h1;show h1 (Int.lt_of_lt_of_le ∅ this)
end
def Mo {g o}{S}{x}(h:x∈(BJ g o S).1):x∈S:=by
 unfold BJ at h;cases z:BW g<;>cases y:Az o<;>rw[z,y] at h
 · show List.mem_of_mem_take h
 · show h
 · show R7 (List.mem_of_mem_drop h)
 · show R7 h
def VE.tr (A:VE b f0 h f q)(e:X=BJ f.g f.o (BE b false q)):X=BJ f0.g f0.o (B7 b f0):=by rw[e,A.g,A.o,A.rem]
def gE {hg}{o}(h:hg=true):0=DD hg o:=by subst h;rfl
def gF {hg}{o}(h:hg=false)(h':Az o):0=DD hg o:=by subst h;unfold DD;rw[h'];rfl
def gG {hg}{o}(h:hg=false)(h':Az o=false):Bg o=DD hg o:=by subst h;unfold DD;rw[h'];rfl
def DI {f:El->AV}{l:List El}(h:l.length<=16):(l.map f).length<=1000:=by rw[Ei];lia
theorem gH (n:Nat):n-(n-1)<=16:=match n with|0=>by decide|n+1=>by rw[Nat.add_sub_cancel,Nat.add_sub_cancel_left];decide
def R9 {g o}{S}(h:S.length<=16):(BJ g o S).1.length<=16:=by
 have k:=Mn (g:=g) (o:=none) (l:=S);unfold BJ;cases BW g<;>cases Az o
 · show EX (List.length_take_le' ..) h
 · show h
 · change (List.drop _ _).length<=16;rw[List.length_drop];show gH _
 · show EX k h
section
variable {b:Bool}{f0:FS}{l:List El}{ov:Bool}(T:(BK l,ov)=BJ f0.g f0.o (B7 b f0)){p₀ p:OP}(h:p₀=(ov,l,[],0))(I:Mj p₀ p)
include T h I
def gI:p.2.1=l:=by rw[I.l,h]
def Pz (lt:p.2.2.2<p.2.1.length):Sm (p.2.1.getD p.2.2.2 BY).v/\Sm (p.2.1.getD p.2.2.2 BY).w:=by
 have m:p.2.1.getD p.2.2.2 BY∈l:=by
  rw[NS,FA lt,<-gI T h I];show Zu lt
 have m:((p.2.1.getD p.2.2.2 BY).v,(p.2.1.getD p.2.2.2 BY).w)∈BK l:=List.mem_map_of_mem m;rw[show BK l=(BJ f0.g f0.o (B7 b f0)).1 from congrArg Prod.fst T] at m;show Pw (JD (Mo m)).2
def FJ:p.2.2.1.length<=1000:=by
 have e:l.length<=16:=by
  rw[<-show (BK l).length=l.length from Ei ..,show BK l=_ from congrArg Prod.fst T];show R9 (JE _)
 rw[I.r,gI T h I];have k:∀m:List El,(OR m).length=2 * m.length:=λm=>by
  induction m with
  |nil=>rfl
  |cons x m ih=>change (OR m).length+2=2 * (m.length+1);lia
 rw[k];have:=List.length_take_le' p.2.2.2 l;lia
def FK (hi:p.2.1.length<=p.2.2.2) t (a:t.map (·.s)=Mk p.2.1.isEmpty p.1):(p.2.2.1++t).map (·.s)=Dm (BJ f0.g f0.o (B7 b f0)):=by
 have k:∀m:List El,(OR m).map (·.s)=(BK m).flatMap λp=>[Ki p.1 p.2,"----------"]:=λm=>by
  induction m with
  |nil=>rfl
  |cons x m ih=>show congrArg (λz=>Ki x.v x.w::Str.ofString "----------"::z) ih
 have e:(BK l).isEmpty=l.isEmpty:=by cases l<;>rfl
 rw[<-T];unfold Dm;rw[Zf,a,I.r,jO hi,k,gI T h I,I.ov,h,e]
end
def OW (h:p=(ov,l,[],0)):Mj p p:=by subst h;show⟨rfl,rfl,QQ _,rfl⟩
def SA (I:Mj p₀ p)(lt:p.2.2.2<p.2.1.length)(a:s=Ki (p.2.1.getD p.2.2.2 BY).v (p.2.1.getD p.2.2.2 BY).w):Mj p₀ (p.1,p.2.1,p.2.2.1++[AAZ s,AAZ "----------"],p.2.2.2.succ):=by
 show⟨I.ov,I.l,lt,?_⟩;change p.2.2.1++_=OR (p.2.1.take (p.2.2.2+1));rw[uQ,FA lt,I.r];unfold OR;rw[List.flatMap_append,a,NS,FA lt];rfl
def gJ (h:w=true)(h':e=false):([("==========")]:List Str)=Mk e w:=by subst h h';rfl
def gM (h:w=true)(h':e=true):([("=====UNSATISFIABLE=====")]:List Str)=Mk e w:=by subst h h';rfl
def gN (h:w=false)(h':e=true):([("=====UNKNOWN=====")]:List Str)=Mk e w:=by subst h h';rfl
def gP (h:w=false)(h':e=false):[]=Mk e w:=by subst h h';rfl
end
section
open PySem PySem.W PySem.Spec PySem.Calls PyProof.Rows
def OX (l:List El)(s:Int):AC:=[some (.list [.ref 1,.d (.int s)]),some (.tl .int l)]
abbrev DP:=List El×Int
def pN (σ:AC):DP:=(Ce .int (rO σ 1),rI (Ae (rL σ 0) 1))
structure CE (p:DP):Prop where
 lo:0<=p.2
 hi:p.2<=50
 len:p.1.length<=20
def KW:Spec where
 P:=DP×Int
 d:=(([],0),0)
 args:=λp=>[.ref 0,.d (.int p.2)]
 cells:=λp=>OX p.1.1 p.1.2
 pre:=λp=>CE p.1/\0<p.2
 ext:=λl σ=>(pN σ,rI (Ae l 1))
 outs:=[{Q:=Int,d:=0,res:=λZ q=>.d (.int q),cells:=λp Z=>OX p.1.1 (p.1.2+1),post:=λp q=>0<=q/\q<p.2,ext:=λZ a Z=>rI a,sel:=yes}]
def yT (i:Nat):Re (DP×Int):={Q:=Unit,d:=(),res:=λZ Z=>.d (.int (Int.ofNat i)),cells:=λp Z=>OX p.1.1 (p.1.2+1),post:=λZ Z=>True,ext:=λZ Z Z=>(),sel:=yes}
def gQ (k:Nat):Spec:={KW with pre:=λp=>CE p.1/\p.2=Int.ofNat k/\0<k,outs:=(List.range k).map yT}
def W4 (k:Nat):List Dt:=(List.range k).map λi=>.int (Int.ofNat i)
def VF (k:Nat):={KW with pre:=λp=>CE p.1/\p.2=Int.ofNat k/\0<k,outs:=[{Q:=Nat,d:=0,res:=λZ q=>.d (.sel (W4 k) q),cells:=λp Z=>OX p.1.1 (p.1.2+1),post:=λZ q=>q<k,ext:=λZ a Z=>Po (U9 a),sel:=yes}]}
def W5:=Hx [] [] Cv Bs none
def tolX (l:List AV)(_:AC):Bool:=Nat.beq (rI (Ae l 1)).toNat 3
def P0 (b:Bool):Spec:=match b with|true=>VF 3|false=>KW
def ZL1:=Hx [(Jq,31,BZ P0 tolX)] [] Cv Bs none
structure Ia (q:Nat×Nat×Int):Prop where
 n:q.1<3
 m:q.2.1<3
 lo:0<=q.2.2
 hi:q.2.2<6
def J3:Spec where
 P:=DP
 d:=([],0)
 args:=λZ=>[.ref 0]
 cells:=λp=>OX p.1 p.2
 pre:=λp=>CE p/\p.2<=40
 ext:=λZ σ=>pN σ
 outs:=[{Q:=Nat×Nat×Int,d:=(0,0,0),res:=λZ q=>.d (W0 q.1 q.2.1 q.2.2),cells:=λp Z=>OX p.1 (p.2+1+1+1),post:=λZ q=>Ia q,ext:=λZ a Z=>(Po (Fu (Hq (U9 a)) 0),Po (Fu (Hq (Fu (Hq (U9 a)) 1)) 1),rI (.d (Fu (Hq (U9 a)) 3))),sel:=yes}]
def Bb (k:Nat):Spec where
 P:=Int×Int×Int
 d:=(0,0,0)
 args:=λp=>[.d (.tup [.str (fX k),iD [1,qx k],iD [0,1],.int p.1]),.d (.tup [.int p.2.1,.int p.2.2])]
 cells:=λZ=>[]
 pre:=λp=>Sm p.2.1/\Sm p.2.2
 ext:=λl Z=>(rI (Ae (DH (Ae l 0)) 3),rI (Ae (DH (Ae l 1)) 0),rI (Ae (DH (Ae l 1)) 1))
 outs:=[{Q:=Bool,d:=false,res:=λZ q=>ba q,cells:=λZ Z=>[],post:=λp q=>q=AZ k p.1 p.2.1 p.2.2,ext:=λZ a Z=>rB a,sel:=yes}]
def CN:Spec where
 P:=(Nat×Nat×Int)×Int×Int
 d:=((0,0,0),0,0)
 args:=λp=>[.d (W0 p.1.1 p.1.2.1 p.1.2.2),.d (.tup [.int p.2.1,.int p.2.2])]
 cells:=λZ=>[]
 pre:=λp=>(p.1.1<3/\p.1.2.1<3)/\(Sm p.2.1/\Sm p.2.2)
 ext:=λl Z=>((Po (Fu (Hq (U9 (Ae l 0))) 0),Po (Fu (Hq (Fu (Hq (U9 (Ae l 0))) 1)) 1),rI (.d (Fu (Hq (U9 (Ae l 0))) 3))),rI (Ae (DH (Ae l 1)) 0),rI (Ae (DH (Ae l 1)) 1))
 outs:=[{Q:=Bool,d:=false,res:=λZ q=>ba q,cells:=λZ Z=>[],post:=λp q=>q=AZ (3 * p.1.1+p.1.2.1) p.1.2.2 p.2.1 p.2.2,ext:=λZ a Z=>rB a,sel:=yes}]
def lO {S}{m}{a}(h:∀k,k<9->DR S m a (Bb k)):DR S m a CN:=by
 intro p hp c hc vs rs A hr Q q;obtain⟨⟨i,j,x⟩,y,z⟩:=p;obtain⟨⟨h1,d⟩,s⟩:=hp;have h1:i<3:=h1;have d:j<3:=d;show h (3 * i+j) (by lia) (x,y,z) s c hc vs ?_ A hr Q λav c' v hx l t=>?_
 · obtain⟨v,u,rfl,⟨ad,its,rfl,w,u0,w0,e0,r0,u1,w1,e1,⟨f,b,g,n,B,C,f0,s0,D,E,f1,s1,s2⟩,F⟩,rw⟩:=rs;have g0:=Hc r0 (OM h1 d);have g1:=Hc s1 (ON h1 d);show⟨_,u,rfl,⟨ad,its,rfl,w,u0,w0,e0,g0,u1,w1,e1,⟨f,b,g,n,B,C,f0,s0,D,E,f1,g1,s2⟩,F⟩,rw⟩
 · obtain⟨o,m,q',r,e1,G⟩:=hx;cases Vo.mp m;show q av c' v ⟨_,Sg ..,q',r,e1,G⟩ l t
def Yu {k n}(h:n<k):(W4 k)[n]?=some (.int (Int.ofNat n)):=by
 unfold W4;rw[Vm,List.getElem?_range h];rfl
theorem toNat_lt {y:Int}{k:Nat}(h0:0<=y)(h:y<k):y.toNat<k:=(Int.toNat_lt h0).mpr h
def pO {S}{m}{a}(h:DR S m a KW) k:DR S m a (VF k):=by
 intro p hp c hc vs rs A hr Q q;obtain⟨h1,b,h3⟩:=hp;have b:p.2=(k:Int):=b;show h p ⟨h1,by rw[b];show Int.ofNat_lt.mpr h3⟩ c hc vs rs A hr Q λav c' v hx l d=>?_;obtain⟨o,m,y,g,e1,i⟩:=hx;cases Vo.mp m;obtain⟨f,j⟩:0<=y/\y<p.2:=g;have n:Int.ofNat y.toNat=y:=Int.toNat_of_nonneg f;have lt:Int.toNat y<k:=toNat_lt f (show @LT.lt Int _ y (k:Int) from b▸j);show q (.d (.sel (W4 k) y.toNat)) c' v ⟨_,Sg ..,y.toNat,lt,rfl,i⟩ l ?_;rw[e1] at d;show Qu (Yu lt) (by rw[n];show d)
def yU {S}{m}{a}(h:DR S m a KW) k:DR S m a (gQ k):=by
 intro p hp c hc vs rs A hr Q q;show QR hp λh1 b h3=>?_;have b:p.2=(k:Int):=b;show h p ⟨h1,by rw[b];show Int.ofNat_lt.mpr h3⟩ c hc vs rs A hr Q λav c' v hx l f=>?_;obtain⟨o,m,y,g,e1,i⟩:=hx;cases Vo.mp m;obtain⟨d,j⟩:0<=y/\y<p.2:=g;have n:Int.ofNat y.toNat=y:=Int.toNat_of_nonneg d;have lt:Int.toNat y<k:=toNat_lt d (show @LT.lt Int _ y (k:Int) from b▸j);show q av c' v ⟨yT y.toNat,List.mem_map_of_mem (List.mem_range.mpr lt),(),trivial,?_,i⟩ l f;rw[e1];show congrArg (λz=>AV.d (.int z)) n.symm
theorem CE.up {l}{s:Int}(h:CE (l,s))(k:Int)(hk:0<=k)(hi:s+k<=50):CE (l,s+k):=⟨by have:=h.lo;change 0<=s+k;have:0<=s:=this;lia,hi,h.len⟩
def K6 (h:CE p)(e:decide (p.2=-1)):False:=by
 have:=AAL e;have:=h.lo;lia
def s9 (h:CE p)(e:decide (p.2<(p.1.length:Int))):p.2.toNat<p.1.length:=by
 have:=AAL e;have:=h.lo
 omega
theorem Yv (h:CE p):small (7 * p.2):=⟨by have:=h.lo;lia,by have:=h.hi;lia⟩
def P1 {x y c:Int}(h:x=y):((x==c)==false)=decide (y≠c):=by
 subst h
 by_cases e:x=c
 · subst e;simp
 · simp[e]
def P2 {x y c:Int}(h:x=y):((x==c)==true)=decide (y=c):=by
 subst h
 by_cases e:x=c
 · subst e;simp
 · simp[e]
def yV (g:Nat):Str:=match g with|1=>"minimize"|3=>"minimize"|_=>"maximize"
def yW (g:Nat):Int:=match g with|1=>0|2=>0|_=>1
def tA (w:Bool)(x:Str):List (Str×AV):=match w with|false=>[]|true=>[(x,Ba)]
abbrev UP:=Nat×List El×List El×Nat
structure Dg (g:Nat) (p₀ p:UP):Prop where
 o:p.1=p₀.1
 s:p.2.1=p₀.2.1
 i:p.2.2.2<=p.2.1.length
 r:BK p.2.2.1=Bl g none (BK (p.2.1.take p.2.2.2))
 len:p.2.1.length<=16
def JF (g:Nat):Ex where
 P:=UP
 d:=(0,[],[],0)
 n:=5
 cells:=λw p=>[some (.tl .pair p.2.1),some (.kd .opt p.1 0 0),some (.ns (("answers_in",.ref 0)::("goal",Ba)::("options",.ref 1)::("kind",.d (.str (yV g)))::("x",.d (.int (yW g)))::("found",.ref 3)::tA w "pair")),some (.tl .pair p.2.2.1),some (.liter 0 p.2.2.2)]
 inv:=λZ=>Dg g
 meas:=λZ p=>p.2.1.length-p.2.2.2
 ext:=λZ σ=>((km (rO σ 1)).1,Ce .pair (rO σ 0),Ce .pair (rO σ 3),Yp (rO σ 4))
 alt:=λσ=>FH σ 2 "pair"
def yX (σ:AC):Bool:=rS (rF (rO σ 2) "kind")==("minimize":Str)
def gOf (σ:AC):Nat:=Bool.rec (Bool.rec 4 2 (decide (rI (rF (rO σ 2) "x")=0))) (Bool.rec 3 1 (decide (rI (rF (rO σ 2) "x")=0))) (yX σ)
def pP (line:Nat):Option Hk:=Bool.rec none (some (.pick λσ=>JF (gOf σ))) (Nat.beq line 2723)
def ZL2:=Hx [] [] pP Bs none
def rMb (a:AV):Bool:=Option.rec false (λl=>Option.rec false (λr=>match r with|.d t=>rB (.d t)|.r _=>false) l[1]?) (bp a)
def SD:Spec where
 P:=List El×Nat×Nat
 d:=([],0,0)
 args:=λp=>[.ref 0,.d (.sel J0 p.2.1),.ref 1]
 cells:=λp=>[some (.tl .pair p.1),some (.kd .opt p.2.2 0 0)]
 pre:=λp=>p.1.length<=16/\p.2.1<5
 ext:=λl σ=>(Ce .pair (rO σ 0),uc (Ae l 1),(km (rO σ 1)).1)
 outs:=[{Q:=List El×Bool,d:=([],false),res:=λZ q=>.mt [.r 2,.d (bl q.2)],cells:=λp q=>[none,some (.kd .opt p.2.2 0 0),some (.tl .pair q.1)],post:=λp q=>(BK q.1,q.2)=BJ p.2.1 p.2.2 (BK p.1),ext:=λZ a σ=>(Ce .pair (rO σ 2),rMb a),sel:=yes}]
def AAa (o:Option (Int×Int))(F:List (Int×Int)):Option (Int×Int):=Option.rec o (λy=>some y) F.getLast?
def OY (g:Nat)(o:Option (Int×Int))(x:Int×Int):List (Int×Int):=Option.rec [x] (λy=>Bool.rec [] [x] (Au g y x)) o
def gR o z F:AAa o (z::F)=AAa (some z) F:=by
 unfold AAa;cases F with
 |nil=>rfl
 |cons y F=>
  rw[List.getLast?_cons_cons];cases e:(y::F).getLast? with
  |none=>simp at e
  |some w=>rfl
def Yw {g}{l}{x}:∀ {o:Option (Int×Int)},Bl g o (l++[x])=Bl g o l++OY g (AAa o (Bl g o l)) x:=by
 induction l with
 |nil=>
  intro o;cases o with
  |none=>rfl
  |some y=>
   change (Bool.rec [] [x] (Au g y x):List (Int×Int))=[]++(Bool.rec [] [x] (Au g y x):List (Int×Int));rw[List.nil_append]
 |cons z l ih=>
  intro o;have k:z::Bl g (some z) (l++[x])=(z::Bl g (some z) l)++OY g (AAa o (z::Bl g (some z) l)) x:=by
   rw[ih,gR];rfl
  cases o with
  |none=>show k
  |some y=>
   change (Bool.rec (Bl g (some y) (l++[x])) (z::Bl g (some z) (l++[x])) (Au g y z):List (Int×Int))=(Bool.rec (Bl g (some y) l) (z::Bl g (some z) l) (Au g y z):List (Int×Int))++OY g (AAa (some y) (Bool.rec (Bl g (some y) l) (z::Bl g (some z) l) (Au g y z))) x;cases Au g y z with
   |true=>show k
   |false=>show ih
def P4 {l:List El}{k:Int}(h:0<=k):BH l none (some k)=l.take k.toNat:=by
 unfold BH;have e1:PySem.W.kms_lo none l.length=0:=rfl;have a:PySem.W.kms_hi (some k) l.length=min k.toNat l.length:=by
  unfold PySem.W.kms_hi;dsimp only;rw[if_neg (by lia)]
 rw[e1,a,List.drop_zero,Nat.sub_zero]
 by_cases q:k.toNat<=l.length
 · rw[Nat.min_eq_left q]
 · rw[Nat.min_eq_right (by lia),List.take_length,jO (by lia)]
def Yx {l:List El}:BH l (some (-1)) none=l.drop (l.length-1):=by
 unfold BH;have e1:PySem.W.kms_hi none l.length=l.length:=rfl;have a:PySem.W.kms_lo (some (-1)) l.length=l.length-1:=by
  unfold PySem.W.kms_lo;dsimp only;rw[if_pos ∅];lia
 rw[e1,a,jO (by rw[List.length_drop];lia)]
def Hd {g}{p}{o}{S}(h:p=(o,S,[],0))(hl:S.length<=16):Dg g p p:=by subst h;show⟨rfl,rfl,QQ _,rfl,hl⟩
section
variable {g:Nat}{p₀ p:UP}(I:Dg g p₀ p)(lt:p.2.2.2<p.2.1.length)
include I lt
def Mp:Bl g none (BK (p.2.1.take (p.2.2.2+1)))=BK p.2.2.1++OY g (AAa none (BK p.2.2.1)) ((p.2.1.getD p.2.2.2 BY).v,(p.2.1.getD p.2.2.2 BY).w):=by
 rw[uQ,FA lt,show BK (p.2.1.take p.2.2.2++(some p.2.1[p.2.2.2]).toList)=BK (p.2.1.take p.2.2.2)++[((p.2.1.getD p.2.2.2 BY).v,(p.2.1.getD p.2.2.2 BY).w)] from by
  unfold BK;rw[Zf,NS,FA lt];rfl,Yw,I.r]
omit lt in
def W6 (h:p.2.2.1.isEmpty=false):AAa none (BK p.2.2.1)=some ((p.2.2.1.getLastD BY).v,(p.2.2.1.getLastD BY).w):=by
 have hn:p.2.2.1≠[]:=λe=>by rw[e] at h;ext h
 unfold AAa BK;rw[List.getLast?_map,zA,uj hn];rfl
theorem K7 (h:p.2.2.1.isEmpty):Dg g p₀ (p.1,p.2.1,p.2.2.1++[JB (p.2.1.getD p.2.2.2 BY).v (p.2.1.getD p.2.2.2 BY).w],p.2.2.2.succ):=
 ⟨I.o,I.s,lt,by
   change BK (p.2.2.1++[_])=Bl g none (BK (p.2.1.take (p.2.2.2+1)));rw[Mp I lt,K5,NU.mp h];rfl,I.len⟩
theorem K8 (h:p.2.2.1.isEmpty=false)(hb:Au g ((p.2.2.1.getLastD BY).v,(p.2.2.1.getLastD BY).w) ((p.2.1.getD p.2.2.2 BY).v,(p.2.1.getD p.2.2.2 BY).w)):Dg g p₀ (p.1,p.2.1,p.2.2.1++[JB (p.2.1.getD p.2.2.2 BY).v (p.2.1.getD p.2.2.2 BY).w],p.2.2.2.succ):=
 ⟨I.o,I.s,lt,by
   change BK (p.2.2.1++[_])=Bl g none (BK (p.2.1.take (p.2.2.2+1)));rw[Mp I lt,K5,W6 I h];unfold OY;dsimp only;rw[hb],I.len⟩
theorem JG (h:p.2.2.1.isEmpty=false)(hb:Au g ((p.2.2.1.getLastD BY).v,(p.2.2.1.getLastD BY).w) ((p.2.1.getD p.2.2.2 BY).v,(p.2.1.getD p.2.2.2 BY).w)=false):Dg g p₀ (p.1,p.2.1,p.2.2.1,p.2.2.2.succ):=
 ⟨I.o,I.s,lt,by
   change BK p.2.2.1=Bl g none (BK (p.2.1.take (p.2.2.2+1)));rw[Mp I lt,W6 I h];unfold OY;dsimp only;rw[hb,XW],I.len⟩
end
def Dg.flen {g}{p₀ p}(I:Dg g p₀ p):p.2.2.1.length<=16:=by
 have e:(BK p.2.2.1).length=p.2.2.1.length:=Ei ..;rw[<-e,I.r];show EX Mn ?_;rw[show (BK (p.2.1.take p.2.2.2)).length=(p.2.1.take p.2.2.2).length from Ei ..];show EX (List.length_take_le' ..) I.len
def lP {g o}{S}(hg:g=0)(h:Az o):(BK S,true)=BJ g o (BK S):=by subst hg;unfold BJ;rw[h];rfl
def lQ {g o:Nat}{S:List El}(hg:g=0)(h:Az o=false):(BK (BH S none (some (Bg o))),decide ((S.length:Int)<Bg o))=BJ g o (BK S):=by
 subst hg;unfold BJ;rw[h,P4 (Int.le_trans ∅ (DT o)),show (BK S).length=S.length from Ei ..];change (BK (S.take _),_)=((BK S).take _,_)
 unfold BK;rw[List.map_take]
section
variable {g o:Nat}{S:List El}{p₀ p:UP}(h1:p₀=(o,S,[],0))(I:Dg g p₀ p)(ge:p.2.1.length<=p.2.2.2)
include h1 I
def IB:p.1=o:=by rw[I.o,h1]
include ge
def W7:BK p.2.2.1=Bl g none (BK S):=by rw[I.r,jO ge,I.s,h1]
def K9 {j}(hg:j=g)(z:BW g)(h:Az p.1):(BK p.2.2.1,true)=BJ j o (BK S):=by
 subst hg;rw[IB h1 I] at h;unfold BJ;rw[z,h,W7 h1 I ge]
def LB {a:Nat}(hg:a=g)(z:BW g)(h:Az p.1=false):(BK (BH p.2.2.1 (some (-1)) none),true)=BJ a o (BK S):=by
 subst hg;rw[IB h1 I] at h;unfold BJ;rw[z,h];change _=(Fw (Bl a none (BK S)),true)
 rw[Yx,<-W7 h1 I ge];unfold Fw BK;rw[List.map_drop,Ei]
end
def JH (k:Nat):Spec:=match k with|0=>KW|1=>VF 5|k+2=>gQ (k+2)
def yY (a:AV):Nat:=Option.rec 0 (λi=>i) (Es a)
def drwX (l:List AV)(σ:AC):Nat:=Bool.rec (Bool.rec 0 (Bool.rec 5 1 (Nat.beq (rI (Ae (rL σ (yY (Ae l 0))) 1)).toNat 4)) (Nat.beq (rI (Ae l 1)).toNat 5)) 2 (Nat.beq (rI (Ae (rL σ (yY (Ae l 0))) 1)).toNat 5)
def yZ:List (Addr×Nat×Hl):=[(Jq,31,BZ JH drwX),(MN,46,MM J3),(BI,31,MM CN),(OD,41,MM SD),(IQ,241,BZ JC (yO 0))]
def lR:List (Addr×Addr):=[(Gk,DW)]
def ya (ns:List (Str×AV))(low a:Option AV):AC:=[none,some (.ns (("script",Ba)::("flat",.ref 8)::ns)),some (.cell (some (.ref 6))),some (.cell (some (.ref 12))),some (.cell low),some (.cell a)]
def gU (vs ts:List AV)(g s:Dt):AC:=[some (.inst Gk 9),some (.ns [("vars",.ref 10),("tolds",.ref 11),("goal",.d g),("shown",.d s)]),some (.list vs),some (.list ts)]
def yb (l:List El)(s:Int):AC:=[some (.list [.ref 7,.d (.int s)]),some (.tl .int l)]
def yc (ns:List (Str×AV))(low b:Option AV)(l:List El)(s:Int)(vs ts:List AV)(g sh:Dt)(a:List AV):AC:=ya ns low b++(yb l s++(gU vs ts g sh++[some (.list a)]))
def Yy:Dt:=.tup [.str "satisfy",nn]
def tB:CU where
 n:=6
 P:=List El
 d:=[]
 pre:=λl=>[some (.tl .int l),some (.ns [("script",.ref 0)]),some (.cell none),some (.cell none),some (.cell none),some (.cell none)]
 ext:=λσ=>Ce .int (rO σ 0)
 Q:=List El
 e:=[]
 cells:=λZ q=>yc [] none none q 0 [] [] Yy (.tup []) []
 rel:=λZ q=>q.length<=20
 extQ:=λZ σ=>Ce .int (rO σ 7)
def gV (a:Int):El:=⟨false,[],a,0,default⟩
def DE (a:Int)(n:Nat):List El:=(List.range n).map λi=>gV (a+Int.ofNat i)
def yd (x:Str)(a b:Int):AV:=.d (.tup [.str x,.dom [(a,b)]])
abbrev LQ:=List El×(Int×Int×Int)×(Int×Int×List El)
def lq0:LQ:=([],(0,0,0),(0,0,[]))
def tC (y:Bool)(b c:AV)(p:LQ)(a:List AV):AC:=match y with|false=>yc [("name",.d (.str "x")),("many",b)] (some c) none p.1 2 [yd "x" p.2.1.1 p.2.1.2.1] [] Yy (.tup []) a++[some (.titer [.str "x",.str "y"] 1),none]|true=>yc [("name",.d (.str "y")),("many",b)] (some c) none p.1 4 [yd "x" p.2.2.1 p.2.2.2.1,yd "y" p.2.1.1 p.2.1.2.1] [] Yy (.tup []) a++[some (.titer [.str "x",.str "y"] 2),none,some (.tl .int p.2.2.2.2),none]
def pQ (y:Bool):List AV:=match y with|false=>[]|true=>[.ref 15]
def ye (y:Bool):List AV:=match y with|false=>[.ref 15]|true=>[.ref 15,.ref 17]
def VG (y:Bool):Nat:=match y with|false=>15|true=>17
def yf (o:AO):AV:=Option.rec (.d .any) (λv=>v.getD (.d .any)) (JY o)
def Mq (σ:AC)(i:Nat):Int×Int:=yF (Ae (DH (Ae (rL σ 10) i)) 1)
def bitN (y:Bool):Nat:=match y with|false=>0|true=>1
def yg (y:Bool)(σ:AC):LQ:=(Ce .int (rO σ 7),(rI (yf (rO σ 4)),(Mq σ (bitN y)).2,rI (rF (rO σ 1) "many")),((Mq σ 0).1,(Mq σ 0).2,Ce .int (rO σ 15)))
def Mr (y:Bool):CU where
 n:=VG y
 P:=LQ
 d:=lq0
 pre:=λp=>tC y (.d (.int p.2.1.2.2)) (.d (.int p.2.1.1)) p (pQ y)
 ext:=yg y
 Q:=List El
 e:=[]
 cells:=λp q=>tC y Ba Ba p (ye y)++[some (.tl .int q)]
 rel:=λp q=>q=DE p.2.1.1 p.2.1.2.2.toNat
 extQ:=λZ σ=>Ce .int (rO σ (VG y))
def yh (o:AO):Int×Nat:=Option.rec (0,0) (λx=>x) (Kl o)
abbrev LT:=LQ×(List El×Int×Nat)
def SE (q:LQ):List El×Int×Int×(Int×Int×List El):=(q.1,q.2.1.1,q.2.1.2.1,q.2.2)
structure Ms (p₀ p:LT):Prop where
 q:SE p.1=SE p₀.1
 x:0<=p.2.2.1
 r:p.2.2.1+Int.ofNat p.2.2.2=p₀.2.2.1+Int.ofNat p₀.2.2.2
 acc:p.2.1=DE p.1.2.1.1 p.2.2.1.toNat
def kFs (w:Bool):List (Str×AV):=match w with|false=>[]|true=>[("k",Ba)]
def JI (y:Bool):Ex where
 P:=LT
 d:=(lq0,[],0,0)
 n:=VG y+4
 cells:=λw p=>tC y Ba (.d (.int p.1.2.1.1)) p.1 (pQ y)++[none,some (.riter p.2.2.1 p.2.2.2),some (.tl .int p.2.1),some (.ns (kFs w))]
 inv:=λZ=>Ms
 meas:=λZ p=>p.2.2.2
 ext:=λZ σ=>(yg y σ,Ce .int (rO σ (VG y+2)),(yh (rO σ (VG y+1))).1,(yh (rO σ (VG y+1))).2)
 alt:=λσ=>FH σ (VG y+3) "k"
def yi (σ:AC):Bool:=rS (rF (rO σ 1) "name")==("y":Str)
abbrev LF:=List El×FS×(List El×List El)
def lf0:LF:=([],Yo,[],[])
def goA (g:Nat):AV:=.d (.sel J0 g)
def yj (b:Bool):Int:=match b with|false=>9|true=>12
def W8 (f:FS):List AV:=[yd "x" f.a0 f.h0,yd "y" f.a1 f.h1]
def gW (ts:List AV)(p:LF):AC:=[none,none,some (.tl .int p.2.2.1),none,some (.tl .int p.2.2.2),none,none,some (.list ts),none]
def lwD (ns:List (Str×AV))(vs ts:List AV)(g sh:Dt):AC:=[none,some (.ns (("script",Ba)::("flat",.ref 8)::("name",Ba)::("many",Ba)::ns)),some (.cell (some Ba)),some (.cell (some (.ref 12))),some (.cell (some Ba)),some (.cell (some (.ref 20))),none,none]++(gU vs ts g sh++[some (.list [.ref 15,.ref 17])])
def optR (o:AO):Nat:=Option.rec 0 (λes=>Bool.rec (Option.rec 0 (λa=>(rI a).toNat) (es.lookup ("answers":Str))) (Bool.rec 1 4 (es.lookup ("answers":Str)).isSome) (es.lookup ("all":Str)).isSome) (X9 o)
def gY (b:Bool):CU where
 n:=22
 P:=LF
 d:=lf0
 pre:=λp=>yc [("name",.d (.str "y")),("many",Ba),("goal",goA p.2.1.g)] (some Ba) (some (.ref 20)) p.1 (yj b) (W8 p.2.1) [] Yy (.tup []) [.ref 15,.ref 17]++gW (J1 b p.2.1) p
 ext:=λσ=>(Ce .int (rO σ 7),⟨(Mq σ 0).1,(Mq σ 0).2,(Mq σ 1).1,(Mq σ 1).2,uc (rF (rO σ 1) "goal"),0,OO (Ae (rL σ 20) 0),OO (Ae (rL σ 20) 1)⟩,Ce .int (rO σ 15),Ce .int (rO σ 17))
 Q:=Nat×Unit
 e:=(0,())
 cells:=λp q=>lwD [("goal",goA p.2.1.g),("options",.ref 22)] (W8 p.2.1) [] Yy (.tup [])++(gW (J1 b p.2.1) p++[some (.kd .opt q.1 0 0)])
 rel:=λZ q=>q.1<5
 extQ:=λZ σ=>(optR (rO σ 22),())
abbrev KX:=FS×List El×List El
def tD (b:Bool)(ns:List (Str×AV))(p:KX):AC:=lwD (("goal",goA p.1.g)::("options",.ref 22)::("told",Ba)::ns) (W8 p.1) (J1 b p.1) (.sel J0 p.1.g) Mg
def lS (b:Bool):AC:=match b with|false=>[none,none]|true=>[none,none,none]
def Fe (b:Bool):Nat:=match b with|false=>25|true=>26
def gZ (b:Bool)(p:KX):AC:=tD b [] p++(gW (J1 b p.1) ([],p)++(some (.kd .opt p.1.o 0 0)::lS b))
def tE (σ:AC):FS:=⟨(Mq σ 0).1,(Mq σ 0).2,(Mq σ 1).1,(Mq σ 1).2,uc (rF (rO σ 1) "goal"),(km (rO σ 22)).1,OO (Ae (rL σ 11) 0),OO (Ae (rL σ 11) 1)⟩
def GW (b:Bool)(f:FS)(x y:Int):Bool:=CO b (vsI b f) x y
def Dh (b:Bool)(p:KX):List (Int×Int):=p.2.1.flatMap λx=>(p.2.2.filter λy=>GW b p.1 x.v y.v).map λy=>(x.v,y.v)
def gb (b:Bool):CU where
 n:=Fe b
 P:=KX
 d:=(Yo,[],[])
 pre:=gZ b
 ext:=λσ=>(tE σ,Ce .int (rO σ 15),Ce .int (rO σ 17))
 Q:=List El
 e:=[]
 cells:=λp q=>tD b [("answers_in",.ref (Fe b))] p++(Pk 9++(some (.kd .opt p.1.o 0 0)::(lS b++[some (.tl .pair q)])))
 rel:=λp q=>BK q=Dh b p
 extQ:=λZ σ=>Ce .pair (rO σ (Fe b))
def gc (σ:AC):Bool:=Nat.blt 1 (rL σ 11).length
def twoT (σ:AC):Bool:=Nat.blt 1 (rL σ 20).length
def W9 (o:AO):Bool:=Option.rec false (λv=>v.isSome) (JY o)
abbrev OA:=KX×List El×Nat
abbrev IA:=KX×Int×List El×Nat×Nat
def yk (b:Bool)(p:KX)(i:Nat)(acc:List El)(av a:Option AV):AC:=gZ b p++[some (.liter 15 i),some (.tl .pair acc),some (.ns []),some (.cell av),some (.cell a)]
def tF (w:Bool):Option AV:=match w with|false=>none|true=>some Ba
def J4 (b:Bool)(f:FS)(x:Int)(l:List El):List (Int×Int):=(l.filter λy=>GW b f x y.v).map λy=>(x,y.v)
structure gf (p:KX):Prop where
 x:∀e∈p.2.1,Sm e.v
 y:∀e∈p.2.2,Sm e.v
 nx:p.2.1.length<=4
 ny:p.2.2.length<=4
 n0:0<p.2.1.length
 n1:0<p.2.2.length
 t0:p.1.t0.n<3/\p.1.t0.m<3
structure Ib (b:Bool) (p₀ p:OA):Prop where
 q:p.1=p₀.1
 t:b=false->p.1.1.t1=QO 0 0 0
 k:b->p.1.1.t1.n<3/\p.1.1.t1.m<3
 s:gf p.1
 i:p.2.2<=p.1.2.1.length
 len:p.2.1.length<=4 * p.2.2
 r:BK p.2.1=(p.1.2.1.take p.2.2).flatMap λe=>J4 b p.1.1 e.v p.1.2.2
structure CR (b w:Bool) (p₀ p:IA):Prop where
 z:w=false->p.2.2.2.2=0
 q:p.1=p₀.1
 t:b=false->p.1.1.t1=QO 0 0 0
 k:b->p.1.1.t1.n<3/\p.1.1.t1.m<3
 s:gf p.1
 a:p.2.1=p₀.2.1
 sa:Sm p.2.1
 i:p.2.2.2.1=p₀.2.2.2.1
 j:p.2.2.2.2<=p.1.2.2.length
 len:p.2.2.1.length+4<=4 * p.2.2.2.1+p.2.2.2.2
 hi:p.2.2.2.1<=p.1.2.1.length
 r:BK p.2.2.1=BK p₀.2.2.1++J4 b p.1.1 p.2.1 (p.1.2.2.take p.2.2.2.2)
def rLA (σ:AC):KX:=(tE σ,Ce .int (rO σ 15),Ce .int (rO σ 17))
def GX (b:Bool):Ex where
 P:=OA
 d:=((Yo,[],[]),[],0)
 n:=Fe b+5
 cells:=λw p=>yk b p.1 p.2.2 p.2.1 (tF w) (tF w)
 inv:=λZ=>Ib b
 meas:=λZ p=>p.1.2.1.length-p.2.2
 ext:=λZ σ=>(rLA σ,Ce .pair (rO σ (Fe b+1)),Yp (rO σ (Fe b)))
 alt:=λσ=>W9 (rO σ (Fe b+3))
def P5 (b:Bool):Ex where
 P:=IA
 d:=((Yo,[],[]),0,[],0,0)
 n:=Fe b+6
 cells:=λw p=>yk b p.1 p.2.2.2.1 p.2.2.1 (some (.d (.int p.2.1))) (tF w)++[some (.liter 17 p.2.2.2.2)]
 inv:=CR b
 meas:=λZ p=>p.1.2.2.length-p.2.2.2.2
 ext:=λZ σ=>(rLA σ,rI (yf (rO σ (Fe b+3))),Ce .pair (rO σ (Fe b+1)),Yp (rO σ (Fe b)),Yp (rO σ (Fe b+5)))
 alt:=λσ=>W9 (rO σ (Fe b+4))
def lT (a:Int):Str:=Di a++" "
def Kj (a c:Int):Str:=Di a++" "++Di c
def EM (l:List El):List El:=l.flatMap λe=>[AAZ (Kj e.v e.w),AAZ "----------"]
abbrev WA:=FS×(List El×Bool)×List El
def yl (w:Bool):List (Str×AV):=match w with|false=>[]|true=>[("a",Ba),("b",Ba)]
def pR (b w:Bool):Nat:=match w with|false=>Fe b+2|true=>Fe b+4
def ym (b w:Bool)(p:WA)(it:Option AO):AC:=tD b (("answers_in",Ba)::("found",.ref (Fe b+1))::("is_whole_in",ba p.2.1.2)::("due",.ref (pR b w))::yl w) (p.1,[],[])++(Pk 9++(some (.kd .opt p.1.o 0 0)::(lS b++(none::some (.tl .pair p.2.1.1)::(match w with|false=>[some (.tl .str p.2.2),it]|true=>[none,it,some (.tl .str p.2.2)])))))
def rWA (b w:Bool)(σ:AC):WA:=(tE σ,(Ce .pair (rO σ (Fe b+1)),rB (rF (rO σ 1) "is_whole_in")),Ce .str (rO σ (pR b w)))
def DZ (b:Bool)(f:FS):FS:=match b with|false=>Gn f.a0 f.h0 f.a1 f.h1 f.g f.o f.t0 (QO 0 0 0)|true=>f
structure HI (b:Bool) (p₀ p:WA×Nat):Prop where
 f:DZ b p.1.1=DZ b p₀.1.1
 l:p.1.2.1=p₀.1.2.1
 i:p.2<=p.1.2.1.1.length
 r:p.1.2.2=EM (p.1.2.1.1.take p.2)
def GY (b:Bool):Ex where
 P:=WA×Nat
 d:=((Yo,([],false),[]),0)
 n:=Fe b+4
 cells:=λw p=>ym b w p.1 (some (.liter (Fe b+1) p.2))
 inv:=λZ=>HI b
 meas:=λZ p=>p.1.2.1.1.length-p.2
 ext:=λw σ=>(rWA b w σ,Yp (rO σ (Fe b+3)))
 alt:=λσ=>FH σ 1 "a"
def yn (w:Bool):Nat:=match w with|false=>0|true=>1
def tG (b w:Bool):Nat:=Fe b+4+yn w
def endC (b w:Bool)(f:FS)(l:List El):AC:=[none,some (.ns (("script",Ba)::("flat",.ref 8)::("name",Ba)::("many",Ba)::("goal",Ba)::("options",.ref 22)::("told",Ba)::("answers_in",Ba)::("found",Ba)::("is_whole_in",Ba)::("due",.ref (tG b w))::yl w)),some (.cell (some Ba)),some (.cell (some Ba)),some (.cell (some Ba)),some (.cell (some Ba)),none,none]++
 (gU (W8 f) (J1 b f) (.sel J0 f.g) Mg++(none::(Pk 9++(some (.kd .opt f.o 0 0)::(lS b++(Pk (4+yn w)++[some (.tl .str l)]))))))
def CF (x:List (Int×Int)×Bool):List Str:=Bool.rec ((x.1.flatMap λp=>[Kj p.1 p.2,"----------"])++Bool.rec [] ["=========="] x.2) ["=====UNSATISFIABLE====="] x.1.isEmpty
def gg (b w:Bool):CU where
 n:=tG b w
 P:=WA
 d:=(Yo,([],false),[])
 pre:=λp=>ym b w p none
 ext:=rWA b w
 Q:=List El
 e:=[]
 cells:=λp q=>endC b w p.1 q
 rel:=λp q=>p.2.2=EM p.2.1.1->q.map (·.s)=CF (BK p.2.1.1,p.2.1.2)
 extQ:=λZ σ=>Ce .str (rO σ (tG b w))
def yo (line:Nat):Option Hk:=Bool.rec (Bool.rec (Bool.rec (Bool.rec none (some (.pick λσ=>GY (gc σ))) (Nat.beq line 2742)) (some (.pick λσ=>P5 (gc σ))) (Nat.beq line 10202738)) (some (.pick λσ=>GX (gc σ))) (Nat.beq line 10102738)) (some (.pick λσ=>JI (yi σ))) (Nat.beq line 102731)
def yp (line:Nat):Option (AC->CU):=Bool.rec (Bool.rec (Bool.rec (Bool.rec (Bool.rec none (some λσ=>gg (gc σ) (FH σ 1 "a")) (Nat.beq line 2743)) (some λσ=>gb (gc σ)) (Nat.beq line 2738)) (some λσ=>gY (twoT σ)) (Nat.beq line 2734)) (some λσ=>Mr (yi σ)) (Nat.beq line 2731)) (some λZ=>tB) (Nat.beq line 2727)
def ZL:=Hx yZ lR yo yp none
def OZ:Spec where
 P:=List El
 d:=[]
 args:=λZ=>[.ref 0]
 cells:=λl=>[some (.tl .int l)]
 pre:=λl=>l.length<=63
 ext:=λZ σ=>Ce .int (rO σ 0)
 outs:=[NJ (λZ=>.d (bl true)) λZ=>[none]]
def NO:Fn:=fnOf Bo
def yq:Stmt:=(NO.body.head?).getD (.Pass ⟨0,0,0,0⟩)
def gh:List Stmt:=NO.body.tail
def Go:Fr:=RG Bo Hz 1 [("tolds",5),("low",4),("lots",3),("feed",2)]
def Yz (o:AO):AC:=[some o,some (.ns [("script",.ref 0)]),some (.cell none),some (.cell none),some (.cell none),some (.cell none)]
def Oa (q:List El):AC:=yc [] none none q 0 [] [] Yy (.tup []) []
def yr (l:List El):CU where
 n:=6
 P:=Unit
 d:=()
 pre:=λZ=>Yz (.raw l)
 ext:=λZ=>()
 Q:=List El
 e:=[]
 cells:=λZ q=>some (.raw l)::(Oa q).tail
 rel:=λZ q=>q.length<=20
 extQ:=λZ σ=>Ce .int (rO σ 7)
def ZX:=Hx [] lR Cv Bs none
def gi:NO.body=yq::gh:=∅
def tH o (k:Fr->AC->Prop):Jc NO.fd Hz NO.params [.ref 0] [some o] k=k Go (Yz o):=∅
def Y0 p:We TT ZL 260 Hz OZ p=I1 tB yq (run TT ZL 258) Go (Yz (.tl .int p)) (cW (run TT ZL 259) Go gh (X2 λav σ=>Gj 1 p av σ OZ.outs)):=∅
end
section
open PySem PySem.W
theorem yt:Is (AP Z0 14 Wh (E0 upTo)):=AQ (p:=∀A:Cf×Int,(List.length A.1).le 2->(List.length A.1).le 2/\let a:=upTo A.1 A.2;(A.1=[]->[Lf.d []]=[Lf.d a]/\True)/\(∀B:Int×Int,A.1=[B]->AF (decide (B.1<=A.2)) (λZ=>[Lf.d [(B.1,min B.2 A.2)]]=[Lf.d a]/\True) λZ=>[Lf.d []]=[Lf.d a]/\True)/\∀B C:Int×Int,A.1=[B,C]->let b:=decide (C.1<=A.2);let e:=(C.1,min C.2 A.2);AF (decide (B.1<=A.2)) (λZ=>let c:=(B.1,min B.2 A.2);AF (b) (λZ=>[Lf.d [c,e]]=[Lf.d a]/\True) λZ=>[Lf.d [c]]=[Lf.d a]/\True) λZ=>AF (b) (λZ=>[Lf.d [e]]=[Lf.d a]/\True) λZ=>[Lf.d []]=[Lf.d a]/\True) ∅ λA hp=>by
 dsimp only;show⟨hp,λh1=>⟨(by simp[upTo,h1]),trv⟩,λB h1=>(AB (λd=>⟨(by simp[upTo,h1,d]),trv⟩) λd=>⟨(by simp[upTo,h1,d]),trv⟩),λB C h1=>(AB (λd=>(AB (λh3=>⟨(by simp[upTo,h1,d,h3]),trv⟩) λh3=>⟨(by simp[upTo,h1,d,h3]),trv⟩)) λd=>(AB (λh3=>⟨(by simp[upTo,h1,d,h3]),trv⟩) λh3=>⟨(by simp[upTo,h1,d,h3]),trv⟩))⟩
theorem lU:Is (AP Z0 14 OC (E0 Ao)):=AQ (p:=∀A:Cf×Int,(List.length A.1).le 2->(List.length A.1).le 2/\let a:=Ao A.1 A.2;(A.1=[]->[Lf.d []]=[Lf.d a]/\True)/\(∀B:Int×Int,A.1=[B]->AF (decide (B.2≥A.2)) (λZ=>[Lf.d [(max B.1 A.2,B.2)]]=[Lf.d a]/\True) λZ=>[Lf.d []]=[Lf.d a]/\True)/\∀B C:Int×Int,A.1=[B,C]->let b:=decide (C.2≥A.2);let e:=(max C.1 A.2,C.2);AF (decide (B.2≥A.2)) (λZ=>let c:=(max B.1 A.2,B.2);AF (b) (λZ=>[Lf.d [c,e]]=[Lf.d a]/\True) λZ=>[Lf.d [c]]=[Lf.d a]/\True) λZ=>AF (b) (λZ=>[Lf.d [e]]=[Lf.d a]/\True) λZ=>[Lf.d []]=[Lf.d a]/\True) ∅ λA hp=>by
 dsimp only;show⟨hp,λh1=>⟨(by simp[Ao,h1]),trv⟩,λB h1=>(AB (λd=>⟨(by simp[Ao,h1,d]),trv⟩) λd=>⟨(by simp[Ao,h1,d]),trv⟩),λB C h1=>(AB (λd=>(AB (λh3=>⟨(by simp[Ao,h1,d,h3]),trv⟩) λh3=>⟨(by simp[Ao,h1,d,h3]),trv⟩)) λd=>(AB (λh3=>⟨(by simp[Ao,h1,d,h3]),trv⟩) λh3=>⟨(by simp[Ao,h1,d,h3]),trv⟩))⟩
def SF (d:Cf)(k:Int):(upTo d k).length<=d.length:=by unfold upTo;rw[Ei];show List.length_filter_le _ _
def Mt (d:Cf)(k:Int):(Ao d k).length<=d.length:=by unfold Ao;rw[Ei];show List.length_filter_le _ _
theorem P6:Is (AP Z1 37 B5 (Ai false .le)):=AQ (p:=∀A:Int×SS,E2 A.2->let d:=A.2.3;rf (LA (E0 upTo) (d,A.1))/\(List.length d).le 2/\(∀B:Unit,True->let c:=oN (Ai false Op.le) 0;let e:=cut Op.le d A.1;AF (decide (upTo d A.1=[])) (λZ=>let b:=(false,(CS A.2.1 true d A.2.4 A.2.5 A.2.6 A.2.7 A.2.8 A.2.9 A.2.10));rf (LX 0 c A b)/\b=AJ false e A.2) λZ=>AF (decide (upTo d A.1=d)) (λZ=>rf (LX 0 c A (true,A.2))/\(true,A.2)=AJ false e A.2) λZ=>L1 A.2.7/\let a:=(true,(CS A.2.1 A.2.2 (upTo d A.1) A.2.4 A.2.5 A.2.6 (A.2.7++[(Ed false d 0 0)]) A.2.8 true A.2.10));rf (LX 0 c A a)/\a=AJ false e A.2)/\True) ∅ λA hp=>by
 dsimp only;show⟨rfl,Bh hp.g0,λB h1=>(AB (λf=>⟨rfl,(Fp (x:=false) (s:=A.2) (nd:=cut .le A.2.3 A.1) f).symm⟩) λf=>(AB (λh3=>⟨rfl,(D9 (x:=false) (s:=A.2) (nd:=cut .le A.2.3 A.1) f h3).symm⟩) λh3=>⟨Be hp.tr,rfl,(EA (x:=false) (s:=A.2) (nd:=cut .le A.2.3 A.1) f h3).symm⟩)),trv⟩
theorem P7:Is (AP Z1 37 B5 (Ai false .ge)):=AQ (p:=∀A:Int×SS,E2 A.2->let d:=A.2.3;rf (LA (E0 Ao) (d,A.1))/\(List.length d).le 2/\(∀B:Unit,True->let c:=oN (Ai false Op.ge) 0;let e:=cut Op.ge d A.1;AF (decide (Ao d A.1=[])) (λZ=>let b:=(false,(CS A.2.1 true d A.2.4 A.2.5 A.2.6 A.2.7 A.2.8 A.2.9 A.2.10));rf (LX 0 c A b)/\b=AJ false e A.2) λZ=>AF (decide (Ao d A.1=d)) (λZ=>rf (LX 0 c A (true,A.2))/\(true,A.2)=AJ false e A.2) λZ=>L1 A.2.7/\let a:=(true,(CS A.2.1 A.2.2 (Ao d A.1) A.2.4 A.2.5 A.2.6 (A.2.7++[(Ed false d 0 0)]) A.2.8 true A.2.10));rf (LX 0 c A a)/\a=AJ false e A.2)/\True) ∅ λA hp=>by
 dsimp only;show⟨rfl,Bh hp.g0,λB h1=>(AB (λf=>⟨rfl,(Fp (x:=false) (s:=A.2) (nd:=cut .ge A.2.3 A.1) f).symm⟩) λf=>(AB (λh3=>⟨rfl,(D9 (x:=false) (s:=A.2) (nd:=cut .ge A.2.3 A.1) f h3).symm⟩) λh3=>⟨Be hp.tr,rfl,(EA (x:=false) (s:=A.2) (nd:=cut .ge A.2.3 A.1) f h3).symm⟩)),trv⟩
theorem P8:Is (AP Z1 37 B5 (Ai false .ne)):=AQ (p:=∀A:Int×SS,E2 A.2->let b:=A.2.3;rf (LA (E0 upTo) (b,A.1-1))/\let h:=List.length b;h.le 2/\(∀B:Unit,True->rf (LA (E0 Ao) (b,A.1+1))/\h.le 2/\(∀C:Unit,True->let f:=A.1-1;L1 (upTo b f)/\let g:=A.1+1;L1 (Ao b g)/\let d:=oN (Ai false Op.ne) 0;let e:=cut Op.ne b A.1;AF (decide (upTo b f++Ao b g=[])) (λZ=>let c:=(false,(CS A.2.1 true b A.2.4 A.2.5 A.2.6 A.2.7 A.2.8 A.2.9 A.2.10));rf (LX 0 d A c)/\c=AJ false e A.2) λZ=>AF (decide (upTo b f++Ao b g=b)) (λZ=>rf (LX 0 d A (true,A.2))/\(true,A.2)=AJ false e A.2) λZ=>L1 A.2.7/\let a:=(true,(CS A.2.1 A.2.2 (upTo b f++Ao b g) A.2.4 A.2.5 A.2.6 (A.2.7++[(Ed false b 0 0)]) A.2.8 true A.2.10));rf (LX 0 d A a)/\a=AJ false e A.2)/\True)/\True) ∅ λA hp=>by
 dsimp only;show⟨rfl,Bh hp.g0,λB h1=>⟨rfl,Bh hp.g0,λC j=>⟨EX (SF _ _) (Bh hp.g0),EX (Mt _ _) (Bh hp.g0),AB (λh3=>⟨rfl,(Fp (x:=false) (s:=A.2) (nd:=cut .ne A.2.3 A.1) h3).symm⟩) λh3=>(AB (λi=>⟨rfl,(D9 (x:=false) (s:=A.2) (nd:=cut .ne A.2.3 A.1) h3 i).symm⟩) λi=>⟨Be hp.tr,rfl,(EA (x:=false) (s:=A.2) (nd:=cut .ne A.2.3 A.1) h3 i).symm⟩)⟩,trv⟩,trv⟩
theorem P9:Is (AP Z1 37 B5 (Ai true .le)):=AQ (p:=∀A:Int×SS,E2 A.2->let d:=A.2.4;rf (LA (E0 upTo) (d,A.1))/\(List.length d).le 2/\(∀B:Unit,True->let c:=oN (Ai true Op.le) 0;let e:=cut Op.le d A.1;AF (decide (upTo d A.1=[])) (λZ=>let b:=(false,(CS A.2.1 true A.2.3 d A.2.5 A.2.6 A.2.7 A.2.8 A.2.9 A.2.10));rf (LX 0 c A b)/\b=AJ true e A.2) λZ=>AF (decide (upTo d A.1=d)) (λZ=>rf (LX 0 c A (true,A.2))/\(true,A.2)=AJ true e A.2) λZ=>L1 A.2.7/\let a:=(true,(CS A.2.1 A.2.2 A.2.3 (upTo d A.1) A.2.5 A.2.6 (A.2.7++[(Ed true d 0 0)]) A.2.8 A.2.9 true));rf (LX 0 c A a)/\a=AJ true e A.2)/\True) ∅ λA hp=>by
 dsimp only;show⟨rfl,Bh hp.g1,λB h1=>(AB (λf=>⟨rfl,(Fp (x:=true) (s:=A.2) (nd:=cut .le A.2.4 A.1) f).symm⟩) λf=>(AB (λh3=>⟨rfl,(D9 (x:=true) (s:=A.2) (nd:=cut .le A.2.4 A.1) f h3).symm⟩) λh3=>⟨Be hp.tr,rfl,(EA (x:=true) (s:=A.2) (nd:=cut .le A.2.4 A.1) f h3).symm⟩)),trv⟩
theorem QA:Is (AP Z1 37 B5 (Ai true .ge)):=AQ (p:=∀A:Int×SS,E2 A.2->let d:=A.2.4;rf (LA (E0 Ao) (d,A.1))/\(List.length d).le 2/\(∀B:Unit,True->let c:=oN (Ai true Op.ge) 0;let e:=cut Op.ge d A.1;AF (decide (Ao d A.1=[])) (λZ=>let b:=(false,(CS A.2.1 true A.2.3 d A.2.5 A.2.6 A.2.7 A.2.8 A.2.9 A.2.10));rf (LX 0 c A b)/\b=AJ true e A.2) λZ=>AF (decide (Ao d A.1=d)) (λZ=>rf (LX 0 c A (true,A.2))/\(true,A.2)=AJ true e A.2) λZ=>L1 A.2.7/\let a:=(true,(CS A.2.1 A.2.2 A.2.3 (Ao d A.1) A.2.5 A.2.6 (A.2.7++[(Ed true d 0 0)]) A.2.8 A.2.9 true));rf (LX 0 c A a)/\a=AJ true e A.2)/\True) ∅ λA hp=>by
 dsimp only;show⟨rfl,Bh hp.g1,λB h1=>(AB (λf=>⟨rfl,(Fp (x:=true) (s:=A.2) (nd:=cut .ge A.2.4 A.1) f).symm⟩) λf=>(AB (λh3=>⟨rfl,(D9 (x:=true) (s:=A.2) (nd:=cut .ge A.2.4 A.1) f h3).symm⟩) λh3=>⟨Be hp.tr,rfl,(EA (x:=true) (s:=A.2) (nd:=cut .ge A.2.4 A.1) f h3).symm⟩)),trv⟩
theorem QB:Is (AP Z1 37 B5 (Ai true .ne)):=AQ (p:=∀A:Int×SS,E2 A.2->let b:=A.2.4;rf (LA (E0 upTo) (b,A.1-1))/\let h:=List.length b;h.le 2/\(∀B:Unit,True->rf (LA (E0 Ao) (b,A.1+1))/\h.le 2/\(∀C:Unit,True->let f:=A.1-1;L1 (upTo b f)/\let g:=A.1+1;L1 (Ao b g)/\let d:=oN (Ai true Op.ne) 0;let e:=cut Op.ne b A.1;AF (decide (upTo b f++Ao b g=[])) (λZ=>let c:=(false,(CS A.2.1 true A.2.3 b A.2.5 A.2.6 A.2.7 A.2.8 A.2.9 A.2.10));rf (LX 0 d A c)/\c=AJ true e A.2) λZ=>AF (decide (upTo b f++Ao b g=b)) (λZ=>rf (LX 0 d A (true,A.2))/\(true,A.2)=AJ true e A.2) λZ=>L1 A.2.7/\let a:=(true,(CS A.2.1 A.2.2 A.2.3 (upTo b f++Ao b g) A.2.5 A.2.6 (A.2.7++[(Ed true b 0 0)]) A.2.8 A.2.9 true));rf (LX 0 d A a)/\a=AJ true e A.2)/\True)/\True) ∅ λA hp=>by
 dsimp only;show⟨rfl,Bh hp.g1,λB h1=>⟨rfl,Bh hp.g1,λC j=>⟨EX (SF _ _) (Bh hp.g1),EX (Mt _ _) (Bh hp.g1),AB (λh3=>⟨rfl,(Fp (x:=true) (s:=A.2) (nd:=cut .ne A.2.4 A.1) h3).symm⟩) λh3=>(AB (λi=>⟨rfl,(D9 (x:=true) (s:=A.2) (nd:=cut .ne A.2.4 A.1) h3 i).symm⟩) λi=>⟨Be hp.tr,rfl,(EA (x:=true) (s:=A.2) (nd:=cut .ne A.2.4 A.1) h3 i).symm⟩)⟩,trv⟩,trv⟩
theorem Y1:Is (AP Z1 29 Jp (E3 .le)):=AQ (p:=∀A:Int×Cf,(List.length A.2).le 2->rf (LA (E0 upTo) (A.2,A.1))/\(List.length A.2).le 2/\(∀B:Unit,True->let a:=Bm (cut Op.le A.2 A.1) A.2;AF (decide (upTo A.2 A.1=A.2)) (λZ=>[Lf.i 1]=[Lf.i a]/\True) λZ=>AF (decide (upTo A.2 A.1=[])) (λZ=>[Lf.i (-1)]=[Lf.i a]/\True) λZ=>[Lf.i 0]=[Lf.i a]/\True)/\True) ∅ λA hp=>by
 dsimp only;show⟨rfl,hp,λB h1=>(AB (λb=>⟨congrArg (λz=>[Lf.i z]) (dy (nd:=cut .le A.2 A.1) (d:=A.2) b).symm,trv⟩) λb=>(AB (λh3=>⟨congrArg (λz=>[Lf.i z]) (dz (nd:=cut .le A.2 A.1) (d:=A.2) b h3).symm,trv⟩) λh3=>⟨congrArg (λz=>[Lf.i z]) (eA (nd:=cut .le A.2 A.1) (d:=A.2) b h3).symm,trv⟩)),trv⟩
theorem Y2:Is (AP Z1 29 Jp (E3 .ge)):=AQ (p:=∀A:Int×Cf,(List.length A.2).le 2->rf (LA (E0 Ao) (A.2,A.1))/\(List.length A.2).le 2/\(∀B:Unit,True->let a:=Bm (cut Op.ge A.2 A.1) A.2;AF (decide (Ao A.2 A.1=A.2)) (λZ=>[Lf.i 1]=[Lf.i a]/\True) λZ=>AF (decide (Ao A.2 A.1=[])) (λZ=>[Lf.i (-1)]=[Lf.i a]/\True) λZ=>[Lf.i 0]=[Lf.i a]/\True)/\True) ∅ λA hp=>by
 dsimp only;show⟨rfl,hp,λB h1=>(AB (λb=>⟨congrArg (λz=>[Lf.i z]) (dy (nd:=cut .ge A.2 A.1) (d:=A.2) b).symm,trv⟩) λb=>(AB (λh3=>⟨congrArg (λz=>[Lf.i z]) (dz (nd:=cut .ge A.2 A.1) (d:=A.2) b h3).symm,trv⟩) λh3=>⟨congrArg (λz=>[Lf.i z]) (eA (nd:=cut .ge A.2 A.1) (d:=A.2) b h3).symm,trv⟩)),trv⟩
theorem tI:Is (AP Z2 33 Ag (E4 1)):=AQ (p:=∀A:SS×Int,Af A.1->let a:=LX 0 (oN (E4 1) 0) A ();let e:=A.1.4;let b:=List.length e;let f:=A.1.6;let c:=decide ((Ax e)<(Ax f));let d:=List.length f;let h:=(1==A.2);AF (0==A.2) (λZ=>AF (h) (λZ=>rf a/\True) λZ=>e≠[]/\b.le 1000/\f≠[]/\d.le 1000/\AF (c) (λZ=>e≠[]/\b.le 1000/\rf a/\True) λZ=>rf a/\True) λZ=>let g:=A.1.3;g≠[]/\let i:=List.length g;i.le 1000/\A.1.5≠[]/\L1 A.1.5/\AF (decide ((Ac g)>(Ac A.1.5))) (λZ=>g≠[]/\i.le 1000/\AF (h) (λZ=>rf a/\True) λZ=>e≠[]/\b.le 1000/\f≠[]/\d.le 1000/\AF (c) (λZ=>e≠[]/\b.le 1000/\rf a/\True) λZ=>rf a/\True) λZ=>AF (h) (λZ=>rf a/\True) λZ=>e≠[]/\b.le 1000/\f≠[]/\d.le 1000/\AF (c) (λZ=>e≠[]/\b.le 1000/\rf a/\True) λZ=>rf a/\True) ∅ λA hp=>by
 dsimp only;show(AB (λh1=>(AB (λk=>⟨rfl,trv⟩) λk=>⟨λh3=>hp.n1 h3,Bh hp.g1,λh3=>hp.e1 h3,Be hp.l1,AB (λh3=>⟨λj=>hp.n1 j,Bh hp.g1,rfl,trv⟩) λh3=>⟨rfl,trv⟩⟩)) λh1=>⟨λk=>hp.n0 k,Bh hp.g0,λk=>hp.e0 k,Be hp.l0,AB (λk=>⟨λh3=>hp.n0 h3,Bh hp.g0,AB (λh3=>⟨rfl,trv⟩) λh3=>⟨λj=>hp.n1 j,Bh hp.g1,λj=>hp.e1 j,Be hp.l1,AB (λj=>⟨λl=>hp.n1 l,Bh hp.g1,rfl,trv⟩) λj=>⟨rfl,trv⟩⟩⟩) λk=>(AB (λh3=>⟨rfl,trv⟩) λh3=>⟨λj=>hp.n1 j,Bh hp.g1,λj=>hp.e1 j,Be hp.l1,AB (λj=>⟨λl=>hp.n1 l,Bh hp.g1,rfl,trv⟩) λj=>⟨rfl,trv⟩⟩)⟩)
abbrev pS (j):=(∀A:SS×Int,Af A.1->let a:=LX 0 (oN (E4 j) 0) A ();let e:=A.1.4;let b:=List.length e;let f:=A.1.6;let c:=decide ((Ac e)>(Ac f));let d:=List.length f;let h:=(1==A.2);AF (0==A.2) (λZ=>AF (h) (λZ=>rf a/\True) λZ=>e≠[]/\b.le 1000/\f≠[]/\d.le 1000/\AF (c) (λZ=>e≠[]/\b.le 1000/\rf a/\True) λZ=>rf a/\True) (λZ=>let g:=A.1.3;g≠[]/\let i:=List.length g;i.le 1000/\A.1.5≠[]/\L1 A.1.5/\AF (decide ((Ac g)>(Ac A.1.5))) (λZ=>g≠[]/\i.le 1000/\AF (h) (λZ=>rf a/\True) λZ=>e≠[]/\b.le 1000/\f≠[]/\d.le 1000/\AF (c) (λZ=>e≠[]/\b.le 1000/\rf a/\True) λZ=>rf a/\True) λZ=>AF (h) (λZ=>rf a/\True) λZ=>e≠[]/\b.le 1000/\f≠[]/\d.le 1000/\AF (c) (λZ=>e≠[]/\b.le 1000/\rf a/\True) λZ=>rf a/\True):Prop)
def gj:pS 0=AP Z2 33 Ag (E4 0):=∅
def gm:pS 2=AP Z2 33 Ag (E4 2):=∅
def XA:Is (AP Z2 33 Ag (E4 0))/\Is (AP Z2 33 Ag (E4 2)):=by
 show⟨AQ gj ?_,AQ gm ?_⟩<;>
 (intro A hp
  dsimp only;show(AB (λh1=>(AB (λb=>⟨rfl,trv⟩) λb=>⟨λh3=>hp.n1 h3,Bh hp.g1,λh3=>hp.e1 h3,Be hp.l1,AB (λh3=>⟨λa=>hp.n1 a,Bh hp.g1,rfl,trv⟩) λh3=>⟨rfl,trv⟩⟩)) λh1=>⟨λb=>hp.n0 b,Bh hp.g0,λb=>hp.e0 b,Be hp.l0,AB (λb=>⟨λh3=>hp.n0 h3,Bh hp.g0,AB (λh3=>⟨rfl,trv⟩) λh3=>⟨λa=>hp.n1 a,Bh hp.g1,λa=>hp.e1 a,Be hp.l1,AB (λa=>⟨λc=>hp.n1 c,Bh hp.g1,rfl,trv⟩) λa=>⟨rfl,trv⟩⟩⟩) λb=>(AB (λh3=>⟨rfl,trv⟩) λh3=>⟨λa=>hp.n1 a,Bh hp.g1,λa=>hp.e1 a,Be hp.l1,AB (λa=>⟨λc=>hp.n1 c,Bh hp.g1,rfl,trv⟩) λa=>⟨rfl,trv⟩⟩)⟩))
theorem tJ:Is (AP Z2 33 Ag (E4 0)):=XA.1
theorem tK:Is (AP Z2 33 Ag (E4 2)):=XA.2
theorem tL:Is (AP Z2 33 Ag (E4 4)):=AQ (p:=∀A:SS×Int,Af A.1->let a:=LX 0 (oN (E4 4) 0) A ();let e:=A.1.4;let b:=List.length e;let f:=A.1.6;let c:=decide ((Ac e)>(Ac f));let d:=List.length f;let h:=(1==A.2);AF (0==A.2) (λZ=>AF (h) (λZ=>rf a/\True) λZ=>e≠[]/\b.le 1000/\f≠[]/\d.le 1000/\AF (c) (λZ=>e≠[]/\b.le 1000/\rf a/\True) λZ=>rf a/\True) λZ=>let g:=A.1.3;g≠[]/\let i:=List.length g;i.le 1000/\A.1.5≠[]/\L1 A.1.5/\AF (decide ((Ax g)<(Ax A.1.5))) (λZ=>g≠[]/\i.le 1000/\AF (h) (λZ=>rf a/\True) λZ=>e≠[]/\b.le 1000/\f≠[]/\d.le 1000/\AF (c) (λZ=>e≠[]/\b.le 1000/\rf a/\True) λZ=>rf a/\True) λZ=>AF (h) (λZ=>rf a/\True) λZ=>e≠[]/\b.le 1000/\f≠[]/\d.le 1000/\AF (c) (λZ=>e≠[]/\b.le 1000/\rf a/\True) λZ=>rf a/\True) ∅ λA hp=>by
 dsimp only;show(AB (λh1=>(AB (λk=>⟨rfl,trv⟩) λk=>⟨λh3=>hp.n1 h3,Bh hp.g1,λh3=>hp.e1 h3,Be hp.l1,AB (λh3=>⟨λj=>hp.n1 j,Bh hp.g1,rfl,trv⟩) λh3=>⟨rfl,trv⟩⟩)) λh1=>⟨λk=>hp.n0 k,Bh hp.g0,λk=>hp.e0 k,Be hp.l0,AB (λk=>⟨λh3=>hp.n0 h3,Bh hp.g0,AB (λh3=>⟨rfl,trv⟩) λh3=>⟨λj=>hp.n1 j,Bh hp.g1,λj=>hp.e1 j,Be hp.l1,AB (λj=>⟨λl=>hp.n1 l,Bh hp.g1,rfl,trv⟩) λj=>⟨rfl,trv⟩⟩⟩) λk=>(AB (λh3=>⟨rfl,trv⟩) λh3=>⟨λj=>hp.n1 j,Bh hp.g1,λj=>hp.e1 j,Be hp.l1,AB (λj=>⟨λl=>hp.n1 l,Bh hp.g1,rfl,trv⟩) λj=>⟨rfl,trv⟩⟩)⟩)
abbrev pT (j):=(∀A:SS×Int,Af A.1->let a:=LX 0 (oN (E4 j) 0) A ();let e:=A.1.4;let b:=List.length e;let f:=A.1.6;let c:=decide ((Ax e)<(Ax f));let d:=List.length f;let h:=(1==A.2);AF (0==A.2) (λZ=>AF (h) (λZ=>rf a/\True) λZ=>e≠[]/\b.le 1000/\f≠[]/\d.le 1000/\AF (c) (λZ=>e≠[]/\b.le 1000/\rf a/\True) λZ=>rf a/\True) (λZ=>let g:=A.1.3;g≠[]/\let i:=List.length g;i.le 1000/\A.1.5≠[]/\L1 A.1.5/\AF (decide ((Ax g)<(Ax A.1.5))) (λZ=>g≠[]/\i.le 1000/\AF (h) (λZ=>rf a/\True) λZ=>e≠[]/\b.le 1000/\f≠[]/\d.le 1000/\AF (c) (λZ=>e≠[]/\b.le 1000/\rf a/\True) λZ=>rf a/\True) λZ=>AF (h) (λZ=>rf a/\True) λZ=>e≠[]/\b.le 1000/\f≠[]/\d.le 1000/\AF (c) (λZ=>e≠[]/\b.le 1000/\rf a/\True) λZ=>rf a/\True):Prop)
def gp:pT 3=AP Z2 33 Ag (E4 3):=∅
def gq:pT 5=AP Z2 33 Ag (E4 5):=∅
def XB:Is (AP Z2 33 Ag (E4 3))/\Is (AP Z2 33 Ag (E4 5)):=by
 show⟨AQ gp ?_,AQ gq ?_⟩<;>
 (intro A hp
  dsimp only;show(AB (λh1=>(AB (λb=>⟨rfl,trv⟩) λb=>⟨λh3=>hp.n1 h3,Bh hp.g1,λh3=>hp.e1 h3,Be hp.l1,AB (λh3=>⟨λa=>hp.n1 a,Bh hp.g1,rfl,trv⟩) λh3=>⟨rfl,trv⟩⟩)) λh1=>⟨λb=>hp.n0 b,Bh hp.g0,λb=>hp.e0 b,Be hp.l0,AB (λb=>⟨λh3=>hp.n0 h3,Bh hp.g0,AB (λh3=>⟨rfl,trv⟩) λh3=>⟨λa=>hp.n1 a,Bh hp.g1,λa=>hp.e1 a,Be hp.l1,AB (λa=>⟨λc=>hp.n1 c,Bh hp.g1,rfl,trv⟩) λa=>⟨rfl,trv⟩⟩⟩) λb=>(AB (λh3=>⟨rfl,trv⟩) λh3=>⟨λa=>hp.n1 a,Bh hp.g1,λa=>hp.e1 a,Be hp.l1,AB (λa=>⟨λc=>hp.n1 c,Bh hp.g1,rfl,trv⟩) λa=>⟨rfl,trv⟩⟩)⟩))
theorem tM:Is (AP Z2 33 Ag (E4 3)):=XB.1
theorem tN:Is (AP Z2 33 Ag (E4 5)):=XB.2
def lV:Is (AP Z3 59 BB (CD 1)):=by
 show AQ (p:=∀A:Int×SS,((Af A.2/\A.2.7.length<890)/\ -100<=A.1/\A.1<=100)->let g:=A.2.3;g≠[]/\let n:=List.length g;n.le 1000/\small 1/\let h:=A.2.4;h≠[]/\let o:=List.length h;o.le 1000/\small (-1)/\let e:=oN (CD 1) 0;let i:=Hm 1;let j:=Hn 1;let k:=Ax h;let m:=Ac g;let u:=E4 1;AF (decide (A.1-[1 * m,-1 * k].sum<0)) (λZ=>rf (LA u (A.2,-1))/\Af A.2/\(∀E:Unit,True->let f:=(false,(CS A.2.1 true g h A.2.5 A.2.6 A.2.7 A.2.8 A.2.9 A.2.10));rf (LX 0 e A f)/\f=BL i j A.1 A.2)/\True) λZ=>g≠[]/\n.le 1000/\small 1/\(((1:Int)=0->False)/\small 1)/\let c:=A.1-[1 * m,-1 * k].sum+1 * m;rf (LA (E3 Op.le) (c.fdiv 1,g))/\n.le 2/\(∀E:Unit,True->let r:=cut Op.le g (c.fdiv 1);let s:=Nat.succ 0;let d:=Int.ofNat s;let t:=Ai true Op.ge;AF (!Bm r g==1) (λZ=>rf (LA u (A.2,0))/\Af A.2/\(∀F:Unit,True->rf (LA (Ai false Op.le) (c.fdiv 1,A.2))/\E2 A.2/\(∀B,B=AJ false r A.2->AF (!B.1) (λZ=>rf (LX 0 e A (false,B.2))/\(false,B.2)=BL i j A.1 A.2) λZ=>let l:=B.2.4;l≠[]/\let v:=List.length l;v.le 1000/\small (-1)/\((Int.ofNat s=0->False)/\small d)/\let a:=A.1-[1 * m,-1 * k].sum+ -1 * (Ax l);rf (LA (E3 Op.ge) (-a.fdiv d,l))/\v.le 2/\(∀C:Unit,True->let p:=cut Op.ge l (-a.fdiv d);AF (!Bm p l==1) (λZ=>rf (LA u (B.2,1))/\Af B.2/\(∀G:Unit,True->rf (LA t (-a.fdiv d,B.2))/\E2 B.2/\(∀D,D=AJ true p B.2->AF (!D.1) (λZ=>rf (LX 0 e A (false,D.2))/\(false,D.2)=BL i j A.1 A.2) λZ=>rf (LX 0 e A (true,D.2))/\(true,D.2)=BL i j A.1 A.2)/\True)/\True) λZ=>rf (LX 0 e A (true,B.2))/\(true,B.2)=BL i j A.1 A.2)/\True)/\True)/\True) λZ=>h≠[]/\o.le 1000/\small (-1)/\((Int.ofNat s=0->False)/\small d)/\let b:=A.1-[1 * m,-1 * k].sum+ -1 * k;rf (LA (E3 Op.ge) (-b.fdiv d,h))/\o.le 2/\(∀F:Unit,True->let q:=cut Op.ge h (-b.fdiv d);AF (!Bm q h==1) (λZ=>rf (LA u (A.2,1))/\Af A.2/\(∀B:Unit,True->rf (LA t (-b.fdiv d,A.2))/\E2 A.2/\(∀C,C=AJ true q A.2->AF (!C.1) (λZ=>rf (LX 0 e A (false,C.2))/\(false,C.2)=BL i j A.1 A.2) λZ=>rf (LX 0 e A (true,C.2))/\(true,C.2)=BL i j A.1 A.2)/\True)/\True) λZ=>rf (LX 0 e A (true,A.2))/\(true,A.2)=BL i j A.1 A.2)/\True)/\True) ∅ ?_;intro A hp;have w:=hp.1.1;have P:=hp.1.2;have hc:=hp.2;have y:A.2.tr.length<900:=by omega
 have z:=w.g0;have O:=w.g1;dsimp only;show⟨λh1=>w.n0 h1,Bh w.g0,DL,λh1=>w.n1 h1,Bh w.g1,DL,AB (λh1=>⟨rfl,w,λE L=>⟨rfl,I3 h1⟩,trv⟩) λh1=>⟨λL=>w.n0 L,Bh w.g0,DL,⟨λL=>absurd L ∅,DL⟩,rfl,Bh w.g0,λE L=>(AB (λh3=>⟨rfl,w,λF M=>⟨rfl,w.toE2,λB x=>(AB (λK=>⟨rfl,Wi h1 h3 x K⟩) λK=>⟨λI=>(w.strike (r:=B.1) (s':=B.2) (BA z _) y x).n1 I,Be (Ar _ (w.strike (r:=B.1) (s':=B.2) (BA z _) y x).g1),DL,⟨λI=>absurd I ∅,DL⟩,rfl,Be (Ar _ (w.strike (r:=B.1) (s':=B.2) (BA z _) y x).g1),λC I=>(AB (λH=>⟨rfl,w.strike (r:=B.1) (s':=B.2) (BA z _) y x,λG Q=>⟨rfl,(w.strike (r:=B.1) (s':=B.2) (BA z _) y x).toE2,λD N=>(AB (λJ=>⟨rfl,bt (KQ h1 h3 x K H N) J⟩) λJ=>⟨rfl,bf (KQ h1 h3 x K H N) J⟩),trv⟩,trv⟩) λH=>⟨rfl,Wj h1 h3 x K H⟩),trv⟩),trv⟩,trv⟩) λh3=>⟨λM=>w.n1 M,Bh w.g1,DL,⟨λM=>absurd M ∅,DL⟩,rfl,Bh w.g1,λF M=>(AB (λx=>⟨rfl,w,λB K=>⟨rfl,w.toE2,λC I=>(AB (λH=>⟨rfl,bt (KR h1 h3 x I) H⟩) λH=>⟨rfl,bf (KR h1 h3 x I) H⟩),trv⟩,trv⟩) λx=>⟨rfl,Wk h1 h3 x⟩),trv⟩),trv⟩⟩
abbrev gt (H)(J):=(∀A:Int×SS,((Af A.2/\A.2.7.length<890)/\ -100<=A.1/\A.1<=100)->let f:=A.2.3;f≠[]/\(let m:=List.length f;m.le 1000/\small 1/\let g:=A.2.4;g≠[]/\let n:=List.length g;n.le 1000/\small H/\let d:=oN (CD J) 0;let h:=Hm J;let i:=Hn J;let k:=Ac f;let l:=Ac g;let r:=E4 J;AF (decide (A.1-[1 * k,H * l].sum<0)) (λZ=>rf (LA r (A.2,-1))/\Af A.2/\(∀E:Unit,True->let e:=(false,(CS A.2.1 true f g A.2.5 A.2.6 A.2.7 A.2.8 A.2.9 A.2.10));rf (LX 0 d A e)/\e=BL h i A.1 A.2)/\True) λZ=>f≠[]/\m.le 1000/\small 1/\(((1:Int)=0->False)/\small 1)/\let c:=A.1-[1 * k,H * l].sum+1 * k;let s:=E3 Op.le;rf (LA s (c.fdiv 1,f))/\m.le 2/\(∀E:Unit,True->let q:=cut Op.le f (c.fdiv 1);let t:=Ai true Op.le;AF (!Bm q f==1) (λZ=>rf (LA r (A.2,0))/\Af A.2/\(∀F:Unit,True->rf (LA (Ai false Op.le) (c.fdiv 1,A.2))/\E2 A.2/\(∀B,B=AJ false q A.2->AF (!B.1) (λZ=>rf (LX 0 d A (false,B.2))/\(false,B.2)=BL h i A.1 A.2) λZ=>let j:=B.2.4;j≠[]/\let u:=List.length j;u.le 1000/\small H/\(((H:Int)=0->False)/\small H)/\let a:=A.1-[1 * k,H * l].sum+H * (Ac j);rf (LA s (a.fdiv H,j))/\u.le 2/\(∀C:Unit,True->let o:=cut Op.le j (a.fdiv H);AF (!Bm o j==1) (λZ=>rf (LA r (B.2,1))/\Af B.2/\(∀G:Unit,True->rf (LA t (a.fdiv H,B.2))/\E2 B.2/\(∀D,D=AJ true o B.2->AF (!D.1) (λZ=>rf (LX 0 d A (false,D.2))/\(false,D.2)=BL h i A.1 A.2) λZ=>rf (LX 0 d A (true,D.2))/\(true,D.2)=BL h i A.1 A.2)/\True)/\True) λZ=>rf (LX 0 d A (true,B.2))/\(true,B.2)=BL h i A.1 A.2)/\True)/\True)/\True) λZ=>g≠[]/\n.le 1000/\small H/\(((H:Int)=0->False)/\small H)/\let b:=A.1-[1 * k,H * l].sum+H * l;rf (LA s (b.fdiv H,g))/\n.le 2/\(∀F:Unit,True->let p:=cut Op.le g (b.fdiv H);AF (!Bm p g==1) (λZ=>rf (LA r (A.2,1))/\Af A.2/\(∀B:Unit,True->rf (LA t (b.fdiv H,A.2))/\E2 A.2/\(∀C,C=AJ true p A.2->AF (!C.1) (λZ=>rf (LX 0 d A (false,C.2))/\(false,C.2)=BL h i A.1 A.2) λZ=>rf (LX 0 d A (true,C.2))/\(true,C.2)=BL h i A.1 A.2)/\True)/\True) λZ=>rf (LX 0 d A (true,A.2))/\(true,A.2)=BL h i A.1 A.2)/\True)/\True):Prop)
def Y3:gt 1 0=AP Z3 59 BB (CD 0):=∅
def Y4:gt 2 2=AP Z3 59 BB (CD 2):=∅
def SG:Is (AP Z3 59 BB (CD 0))/\Is (AP Z3 59 BB (CD 2)):=by
 show⟨AQ Y3 ?_,AQ Y4 ?_⟩<;>
 (intro A hp
  have a:=hp.1.1;have n:=hp.1.2;have hc:=hp.2;have c:A.2.tr.length<900:=by omega
  have d:=a.g0;have m:=a.g1;dsimp only;show⟨λh1=>a.n0 h1,Bh a.g0,DL,λh1=>a.n1 h1,Bh a.g1,DL,AB (λh1=>⟨rfl,a,λE j=>⟨rfl,I3 h1⟩,trv⟩) λh1=>⟨λj=>a.n0 j,Bh a.g0,DL,⟨λj=>absurd j ∅,DL⟩,rfl,Bh a.g0,λE j=>(AB (λh3=>⟨rfl,a,λF k=>⟨rfl,a.toE2,λB b=>(AB (λi=>⟨rfl,Wi h1 h3 b i⟩) λi=>⟨λg=>(a.strike (r:=B.1) (s':=B.2) (BA d _) c b).n1 g,Be (Ar _ (a.strike (r:=B.1) (s':=B.2) (BA d _) c b).g1),DL,⟨λg=>absurd g ∅,DL⟩,rfl,Be (Ar _ (a.strike (r:=B.1) (s':=B.2) (BA d _) c b).g1),λC g=>(AB (λf=>⟨rfl,a.strike (r:=B.1) (s':=B.2) (BA d _) c b,λG o=>⟨rfl,(a.strike (r:=B.1) (s':=B.2) (BA d _) c b).toE2,λD l=>(AB (λh=>⟨rfl,bt (KQ h1 h3 b i f l) h⟩) λh=>⟨rfl,bf (KQ h1 h3 b i f l) h⟩),trv⟩,trv⟩) λf=>⟨rfl,Wj h1 h3 b i f⟩),trv⟩),trv⟩,trv⟩) λh3=>⟨λk=>a.n1 k,Bh a.g1,DL,⟨λk=>absurd k ∅,DL⟩,rfl,Bh a.g1,λF k=>(AB (λb=>⟨rfl,a,λB i=>⟨rfl,a.toE2,λC g=>(AB (λf=>⟨rfl,bt (KR h1 h3 b g) f⟩) λf=>⟨rfl,bf (KR h1 h3 b g) f⟩),trv⟩,trv⟩) λb=>⟨rfl,Wk h1 h3 b⟩),trv⟩),trv⟩⟩)
theorem lW:Is (AP Z3 59 BB (CD 0)):=SG.1
theorem lX:Is (AP Z3 59 BB (CD 2)):=SG.2
def lY:Is (AP Z3 59 BB (CD 4)):=by
 show AQ (p:=∀A:Int×SS,((Af A.2/\A.2.7.length<890)/\ -100<=A.1/\A.1<=100)->let g:=A.2.3;g≠[]/\let n:=List.length g;n.le 1000/\small (-1)/\let h:=A.2.4;h≠[]/\let o:=List.length h;o.le 1000/\small 1/\let d:=oN (CD 4) 0;let i:=Hm 4;let j:=Hn 4;let k:=Ax g;let m:=Ac h;let t:=E4 4;AF (decide (A.1-[-1 * k,1 * m].sum<0)) (λZ=>rf (LA t (A.2,-1))/\Af A.2/\(∀E:Unit,True->let f:=(false,(CS A.2.1 true g h A.2.5 A.2.6 A.2.7 A.2.8 A.2.9 A.2.10));rf (LX 0 d A f)/\f=BL i j A.1 A.2)/\True) λZ=>g≠[]/\n.le 1000/\small (-1)/\let e:=Int.ofNat (Nat.succ 0);((Int.ofNat (Nat.succ 0)=0->False)/\small e)/\let a:=A.1-[-1 * k,1 * m].sum+ -1 * k;rf (LA (E3 Op.ge) (-a.fdiv e,g))/\n.le 2/\(∀E:Unit,True->let p:=cut Op.ge g (-a.fdiv e);let s:=Ai true Op.le;AF (!Bm p g==1) (λZ=>rf (LA t (A.2,0))/\Af A.2/\(∀F:Unit,True->rf (LA (Ai false Op.ge) (-a.fdiv e,A.2))/\E2 A.2/\(∀B,B=AJ false p A.2->AF (!B.1) (λZ=>rf (LX 0 d A (false,B.2))/\(false,B.2)=BL i j A.1 A.2) λZ=>let l:=B.2.4;l≠[]/\let u:=List.length l;u.le 1000/\small 1/\(((1:Int)=0->False)/\small 1)/\let b:=A.1-[-1 * k,1 * m].sum+1 * (Ac l);rf (LA (E3 Op.le) (b.fdiv 1,l))/\u.le 2/\(∀C:Unit,True->let q:=cut Op.le l (b.fdiv 1);AF (!Bm q l==1) (λZ=>rf (LA t (B.2,1))/\Af B.2/\(∀G:Unit,True->rf (LA s (b.fdiv 1,B.2))/\E2 B.2/\(∀D,D=AJ true q B.2->AF (!D.1) (λZ=>rf (LX 0 d A (false,D.2))/\(false,D.2)=BL i j A.1 A.2) λZ=>rf (LX 0 d A (true,D.2))/\(true,D.2)=BL i j A.1 A.2)/\True)/\True) λZ=>rf (LX 0 d A (true,B.2))/\(true,B.2)=BL i j A.1 A.2)/\True)/\True)/\True) λZ=>h≠[]/\o.le 1000/\small 1/\(((1:Int)=0->False)/\small 1)/\let c:=A.1-[-1 * k,1 * m].sum+1 * m;rf (LA (E3 Op.le) (c.fdiv 1,h))/\o.le 2/\(∀F:Unit,True->let r:=cut Op.le h (c.fdiv 1);AF (!Bm r h==1) (λZ=>rf (LA t (A.2,1))/\Af A.2/\(∀B:Unit,True->rf (LA s (c.fdiv 1,A.2))/\E2 A.2/\(∀C,C=AJ true r A.2->AF (!C.1) (λZ=>rf (LX 0 d A (false,C.2))/\(false,C.2)=BL i j A.1 A.2) λZ=>rf (LX 0 d A (true,C.2))/\(true,C.2)=BL i j A.1 A.2)/\True)/\True) λZ=>rf (LX 0 d A (true,A.2))/\(true,A.2)=BL i j A.1 A.2)/\True)/\True) ∅ ?_;intro A hp;have v:=hp.1.1;have O:=hp.1.2;have hc:=hp.2;have x:A.2.tr.length<900:=by omega
 have y:=v.g0;have N:=v.g1;dsimp only;show⟨λh1=>v.n0 h1,Bh v.g0,DL,λh1=>v.n1 h1,Bh v.g1,DL,AB (λh1=>⟨rfl,v,λE K=>⟨rfl,I3 h1⟩,trv⟩) λh1=>⟨λK=>v.n0 K,Bh v.g0,DL,⟨λK=>absurd K ∅,DL⟩,rfl,Bh v.g0,λE K=>(AB (λh3=>⟨rfl,v,λF L=>⟨rfl,v.toE2,λB w=>(AB (λJ=>⟨rfl,Wi h1 h3 w J⟩) λJ=>⟨λH=>(v.strike (r:=B.1) (s':=B.2) (BA y _) x w).n1 H,Be (Ar _ (v.strike (r:=B.1) (s':=B.2) (BA y _) x w).g1),DL,⟨λH=>absurd H ∅,DL⟩,rfl,Be (Ar _ (v.strike (r:=B.1) (s':=B.2) (BA y _) x w).g1),λC H=>(AB (λz=>⟨rfl,v.strike (r:=B.1) (s':=B.2) (BA y _) x w,λG P=>⟨rfl,(v.strike (r:=B.1) (s':=B.2) (BA y _) x w).toE2,λD M=>(AB (λI=>⟨rfl,bt (KQ h1 h3 w J z M) I⟩) λI=>⟨rfl,bf (KQ h1 h3 w J z M) I⟩),trv⟩,trv⟩) λz=>⟨rfl,Wj h1 h3 w J z⟩),trv⟩),trv⟩,trv⟩) λh3=>⟨λL=>v.n1 L,Bh v.g1,DL,⟨λL=>absurd L ∅,DL⟩,rfl,Bh v.g1,λF L=>(AB (λw=>⟨rfl,v,λB J=>⟨rfl,v.toE2,λC H=>(AB (λz=>⟨rfl,bt (KR h1 h3 w H) z⟩) λz=>⟨rfl,bf (KR h1 h3 w H) z⟩),trv⟩,trv⟩) λw=>⟨rfl,Wk h1 h3 w⟩),trv⟩),trv⟩⟩
abbrev gu (H)(J)(N):=(∀A:Int×SS,((Af A.2/\A.2.7.length<890)/\ -100<=A.1/\A.1<=100)->let h:=A.2.3;h≠[]/\(let o:=List.length h;o.le 1000/\small (-1)/\let i:=A.2.4;i≠[]/\let p:=List.length i;p.le 1000/\small (-H)/\let e:=oN (CD J) 0;let j:=Hm J;let k:=Hn J;let l:=Ax h;let m:=Ax i;let t:=E4 J;AF (decide (A.1-[-1 * l,-H * m].sum<0)) (λZ=>rf (LA t (A.2,-1))/\Af A.2/\(∀E:Unit,True->let g:=(false,(CS A.2.1 true h i A.2.5 A.2.6 A.2.7 A.2.8 A.2.9 A.2.10));rf (LX 0 e A g)/\g=BL j k A.1 A.2)/\True) λZ=>h≠[]/\o.le 1000/\small (-1)/\let f:=Int.ofNat (Nat.succ 0);((Int.ofNat (Nat.succ 0)=0->False)/\small f)/\let c:=A.1-[-1 * l,-H * m].sum+ -1 * l;let u:=E3 Op.ge;rf (LA u (-c.fdiv f,h))/\o.le 2/\(∀E:Unit,True->let q:=cut Op.ge h (-c.fdiv f);let v:=Nat.succ N;let d:=Int.ofNat v;let w:=Ai true Op.ge;AF (!Bm q h==1) (λZ=>rf (LA t (A.2,0))/\Af A.2/\(∀F:Unit,True->rf (LA (Ai false Op.ge) (-c.fdiv f,A.2))/\E2 A.2/\(∀B,B=AJ false q A.2->AF (!B.1) (λZ=>rf (LX 0 e A (false,B.2))/\(false,B.2)=BL j k A.1 A.2) λZ=>let n:=B.2.4;n≠[]/\let y:=List.length n;y.le 1000/\small (-H)/\((Int.ofNat v=0->False)/\small d)/\let a:=A.1-[-1 * l,-H * m].sum+ -H * (Ax n);rf (LA u (-a.fdiv d,n))/\y.le 2/\(∀C:Unit,True->let r:=cut Op.ge n (-a.fdiv d);AF (!Bm r n==1) (λZ=>rf (LA t (B.2,1))/\Af B.2/\(∀G:Unit,True->rf (LA w (-a.fdiv d,B.2))/\E2 B.2/\(∀D,D=AJ true r B.2->AF (!D.1) (λZ=>rf (LX 0 e A (false,D.2))/\(false,D.2)=BL j k A.1 A.2) λZ=>rf (LX 0 e A (true,D.2))/\(true,D.2)=BL j k A.1 A.2)/\True)/\True) λZ=>rf (LX 0 e A (true,B.2))/\(true,B.2)=BL j k A.1 A.2)/\True)/\True)/\True) λZ=>i≠[]/\p.le 1000/\small (-H)/\((Int.ofNat v=0->False)/\small d)/\let b:=A.1-[-1 * l,-H * m].sum+ -H * m;rf (LA u (-b.fdiv d,i))/\p.le 2/\(∀F:Unit,True->let s:=cut Op.ge i (-b.fdiv d);AF (!Bm s i==1) (λZ=>rf (LA t (A.2,1))/\Af A.2/\(∀B:Unit,True->rf (LA w (-b.fdiv d,A.2))/\E2 A.2/\(∀C,C=AJ true s A.2->AF (!C.1) (λZ=>rf (LX 0 e A (false,C.2))/\(false,C.2)=BL j k A.1 A.2) λZ=>rf (LX 0 e A (true,C.2))/\(true,C.2)=BL j k A.1 A.2)/\True)/\True) λZ=>rf (LX 0 e A (true,A.2))/\(true,A.2)=BL j k A.1 A.2)/\True)/\True):Prop)
def Y5:gu 1 3 0=AP Z3 59 BB (CD 3):=∅
def Y6:gu 2 5 1=AP Z3 59 BB (CD 5):=∅
def SH:Is (AP Z3 59 BB (CD 3))/\Is (AP Z3 59 BB (CD 5)):=by
 show⟨AQ Y5 ?_,AQ Y6 ?_⟩<;>
 (intro A hp
  have a:=hp.1.1;have n:=hp.1.2;have hc:=hp.2;have c:A.2.tr.length<900:=by omega
  have d:=a.g0;have m:=a.g1;dsimp only;show⟨λh1=>a.n0 h1,Bh a.g0,DL,λh1=>a.n1 h1,Bh a.g1,DL,AB (λh1=>⟨rfl,a,λE j=>⟨rfl,I3 h1⟩,trv⟩) λh1=>⟨λj=>a.n0 j,Bh a.g0,DL,⟨λj=>absurd j ∅,DL⟩,rfl,Bh a.g0,λE j=>(AB (λh3=>⟨rfl,a,λF k=>⟨rfl,a.toE2,λB b=>(AB (λi=>⟨rfl,Wi h1 h3 b i⟩) λi=>⟨λg=>(a.strike (r:=B.1) (s':=B.2) (BA d _) c b).n1 g,Be (Ar _ (a.strike (r:=B.1) (s':=B.2) (BA d _) c b).g1),DL,⟨λg=>absurd g ∅,DL⟩,rfl,Be (Ar _ (a.strike (r:=B.1) (s':=B.2) (BA d _) c b).g1),λC g=>(AB (λf=>⟨rfl,a.strike (r:=B.1) (s':=B.2) (BA d _) c b,λG o=>⟨rfl,(a.strike (r:=B.1) (s':=B.2) (BA d _) c b).toE2,λD l=>(AB (λh=>⟨rfl,bt (KQ h1 h3 b i f l) h⟩) λh=>⟨rfl,bf (KQ h1 h3 b i f l) h⟩),trv⟩,trv⟩) λf=>⟨rfl,Wj h1 h3 b i f⟩),trv⟩),trv⟩,trv⟩) λh3=>⟨λk=>a.n1 k,Bh a.g1,DL,⟨λk=>absurd k ∅,DL⟩,rfl,Bh a.g1,λF k=>(AB (λb=>⟨rfl,a,λB i=>⟨rfl,a.toE2,λC g=>(AB (λf=>⟨rfl,bt (KR h1 h3 b g) f⟩) λf=>⟨rfl,bf (KR h1 h3 b g) f⟩),trv⟩,trv⟩) λb=>⟨rfl,Wk h1 h3 b⟩),trv⟩),trv⟩⟩)
theorem lZ:Is (AP Z3 59 BB (CD 3)):=SH.1
theorem lb:Is (AP Z3 59 BB (CD 5)):=SH.2
theorem zR {A B:Prop}(f:A->B)(a:A):B:=f a
theorem tO:Is (AP Z4 11 Ds (ET false)):=AQ (p:=∀C:SS,Af C->let a:=List.length C.3;a.le 1000/\let b:=sL C (Lf.v (Value.bool (AT C.3))::[]);let c:=(Int.ofNat a==1);AF (c) (λZ=>C.3≠[]/\a.le 1000/\C.3≠[]/\a.le 1000/\(sL C (Lf.v (Value.bool ((Ac C.3)==(List.headD C.3 (0,0)).snd))::[]))=b/\True) λZ=>(sL C (Lf.v (Value.bool c)::[]))=b/\True) ∅ λC hp=>by
 dsimp only;show⟨Bh hp.g0,AB (λh1=>⟨λd=>hp.n0 d,Bh hp.g0,λd=>hp.n0 d,Bh hp.g0,congrArg (λb=>sL C [Lf.v (Value.bool b)]) (xk h1),trv⟩) λh1=>⟨congrArg (λb=>sL C [Lf.v (Value.bool b)]) (xl h1),trv⟩⟩
theorem tP:Is (AP Z4 11 Ds (ET true)):=AQ (p:=∀C:SS,Af C->let a:=List.length C.4;a.le 1000/\let b:=sL C (Lf.v (Value.bool (AT C.4))::[]);let c:=(Int.ofNat a==1);AF (c) (λZ=>C.4≠[]/\a.le 1000/\C.4≠[]/\a.le 1000/\(sL C (Lf.v (Value.bool ((Ac C.4)==(List.headD C.4 (0,0)).snd))::[]))=b/\True) λZ=>(sL C (Lf.v (Value.bool c)::[]))=b/\True) ∅ λC hp=>by
 dsimp only;show⟨Bh hp.g1,AB (λh1=>⟨λd=>hp.n1 d,Bh hp.g1,λd=>hp.n1 d,Bh hp.g1,congrArg (λb=>sL C [Lf.v (Value.bool b)]) (xk h1),trv⟩) λh1=>⟨congrArg (λb=>sL C [Lf.v (Value.bool b)]) (xl h1),trv⟩⟩
def tQ:Is (AP Z5 75 C1 (Bi 0)):=by
 show AQ (p:=∀C:SS×Int,(Bu C.1/\0<=C.2/\C.2<=10)->rf (LA (CD 0) (C.2,C.1))/\((Af C.1/\C.1.7.length.succ.le 890)/\(C.2 - -100).NonNeg/\(100-C.2).NonNeg)/\(∀E,E=BL (Hm 0) (Hn 0) C.2 C.1->rf (LX 0 (oN (Bi 0) 0) C (E.1,E.2))/\Aa (AZ 0 C.2) C.1 E.1 E.2)/\True) ∅ ?_;intro C hp;have a:=hp.1;have hc:=hp.2;show⟨rfl,⟨⟨a.toAf,a.tr_lt⟩,sP hc,sQ hc⟩,λE h1=>⟨rfl,(sR _).prop (r:=E.1) (s':=E.2) a h1⟩,trv⟩
def tR:Is (AP Z5 75 C1 (Bi 1)):=by
 show AQ (p:=∀C:SS×Int,(Bu C.1/\0<=C.2/\C.2<=10)->rf (LA (CD 1) (C.2,C.1))/\((Af C.1/\C.1.7.length.succ.le 890)/\(C.2 - -100).NonNeg/\(100-C.2).NonNeg)/\(∀E,E=BL (Hm 1) (Hn 1) C.2 C.1->rf (LX 0 (oN (Bi 1) 0) C (E.1,E.2))/\Aa (AZ 1 C.2) C.1 E.1 E.2)/\True) ∅ ?_;intro C hp;have a:=hp.1;have hc:=hp.2;show⟨rfl,⟨⟨a.toAf,a.tr_lt⟩,sP hc,sQ hc⟩,λE h1=>⟨rfl,(sS _).prop (r:=E.1) (s':=E.2) a h1⟩,trv⟩
def tS:Is (AP Z5 75 C1 (Bi 2)):=by
 show AQ (p:=∀C:SS×Int,(Bu C.1/\0<=C.2/\C.2<=10)->rf (LA (CD 2) (C.2,C.1))/\((Af C.1/\C.1.7.length.succ.le 890)/\(C.2 - -100).NonNeg/\(100-C.2).NonNeg)/\(∀E,E=BL (Hm 2) (Hn 2) C.2 C.1->rf (LX 0 (oN (Bi 2) 0) C (E.1,E.2))/\Aa (AZ 2 C.2) C.1 E.1 E.2)/\True) ∅ ?_;intro C hp;have a:=hp.1;have hc:=hp.2;show⟨rfl,⟨⟨a.toAf,a.tr_lt⟩,sP hc,sQ hc⟩,λE h1=>⟨rfl,(sT _).prop (r:=E.1) (s':=E.2) a h1⟩,trv⟩
def tT:Is (AP Z5 75 BD (Bi 4)):=by
 show AQ (p:=∀C:SS×Int,(Bu C.1/\0<=C.2/\C.2<=10)->rf (LA (ET false) C.1)/\Af C.1/\(∀E:Unit,True->let d:=AZ 4 C.2;let e:=oN (Bi 4) 0;let f:=C.1.4;let i:=LX 0 e C (true,C.1);let j:=List.length f;let l:=C.1.3;let n:=LA (ET true) C.1;let o:=!decide (C.1.6=f);let t:=!AT f;let z:=Ac f;AF (!AT l) (λZ=>rf n/\Af C.1/\(∀F:Unit,True->AF t (λZ=>rf i/\Aa d C.1 true C.1) λZ=>f≠[]/\j.le 1000/\small (-1)/\let h:=C.2 - -1 * z;let p:=LA (Ai false Op.ne) (h.fdiv 1,C.1);let r:=cut Op.ne l (h.fdiv 1);let u:=(1:Int);let w:=(!h.fmod 1==0);AF o (λZ=>f≠[]/\j.le 1000/\(u=0->False)/\AF w (λZ=>rf i/\Aa d C.1 true C.1) λZ=>((u=0->False)/\small 1)/\rf p/\E2 C.1/\(∀D,D=AJ false r C.1->rf (LX 0 e C (D.1,D.2))/\Aa d C.1 D.1 D.2)/\True) λZ=>(u=0->False)/\AF w (λZ=>rf i/\Aa d C.1 true C.1) λZ=>((u=0->False)/\small 1)/\rf p/\E2 C.1/\(∀D,D=AJ false r C.1->rf (LX 0 e C (D.1,D.2))/\Aa d C.1 D.1 D.2)/\True)/\True) λZ=>l≠[]/\let a0:=List.length l;a0.le 1000/\small 1/\let a:=CS C.1.1 true l f C.1.5 C.1.6 C.1.7 C.1.8 C.1.9 C.1.10;let k:=LX 0 e C (false,a);let s:=(-1:Int);let y:=Ac l;let b:=(!C.2-1 * y - -1 * z==0);let c:=LX 0 e C (!C.2-1 * y - -1 * z==0,C.1);let g:=C.2-1 * y;let m:=LA (Ai true Op.ne) (g.fdiv (-1),C.1);let q:=cut Op.ne f (g.fdiv (-1));let v:=(!g.fmod (-1)==0);AF (!decide (C.1.5=l)) (λZ=>l≠[]/\a0.le 1000/\rf n/\Af C.1/\(∀F:Unit,True->AF t (λZ=>(s=0->False)/\AF v (λZ=>rf i/\Aa d C.1 true C.1) λZ=>((s=0->False)/\small (-1))/\rf m/\E2 C.1/\(∀D,D=AJ true q C.1->rf (LX 0 e C (D.1,D.2))/\Aa d C.1 D.1 D.2)/\True) λZ=>f≠[]/\j.le 1000/\small (-1)/\AF o (λZ=>f≠[]/\j.le 1000/\AF b (λZ=>rf c/\Aa d C.1 b C.1) λZ=>rf k/\Aa d C.1 false a) λZ=>AF b (λZ=>rf c/\Aa d C.1 b C.1) λZ=>rf k/\Aa d C.1 false a)/\True) λZ=>rf n/\Af C.1/\(∀F:Unit,True->AF t (λZ=>(s=0->False)/\AF v (λZ=>rf i/\Aa d C.1 true C.1) λZ=>((s=0->False)/\small (-1))/\rf m/\E2 C.1/\(∀D,D=AJ true q C.1->rf (LX 0 e C (D.1,D.2))/\Aa d C.1 D.1 D.2)/\True) λZ=>f≠[]/\j.le 1000/\small (-1)/\AF o (λZ=>f≠[]/\j.le 1000/\AF b (λZ=>rf c/\Aa d C.1 b C.1) λZ=>rf k/\Aa d C.1 false a) λZ=>AF b (λZ=>rf c/\Aa d C.1 b C.1) λZ=>rf k/\Aa d C.1 false a)/\True)/\True) ∅ ?_;intro C hp;have x:=hp.1;have hc:=hp.2;dsimp only;show⟨rfl,x.toAf,λE h1=>(AB (λH=>⟨rfl,x.toAf,λF h3=>(AB (λI=>⟨rfl,D1 (Jt H)⟩) λI=>⟨λG=>x.n1 G,Bh x.g1,DL,AB (λG=>⟨λB=>x.n1 B,Bh x.g1,λB=>absurd B ∅,AB (λB=>⟨rfl,D1 (Jt H)⟩) λB=>⟨⟨λA=>absurd A ∅,DL⟩,rfl,x.toE2,λD A=>⟨rfl,(EH _).x (r:=D.1) (s':=D.2) x I Wl A⟩,trv⟩⟩) λG=>⟨λB=>absurd B ∅,AB (λB=>⟨rfl,D1 (Jt H)⟩) λB=>⟨⟨λA=>absurd A ∅,DL⟩,rfl,x.toE2,λD A=>⟨rfl,(EH _).x (r:=D.1) (s':=D.2) x I Wl A⟩,trv⟩⟩⟩),trv⟩) λH=>⟨λh3=>x.n0 h3,Bh x.g0,DL,AB (λh3=>⟨λI=>x.n0 I,Bh x.g0,rfl,x.toAf,λF I=>(AB (λG=>⟨λB=>absurd B ∅,AB (λB=>⟨rfl,D1 (PQ G)⟩) λB=>⟨⟨λA=>absurd A ∅,DL⟩,rfl,x.toE2,λD A=>⟨rfl,(EH _).y (r:=D.1) (s':=D.2) x H (Wm B) A⟩,trv⟩⟩) λG=>⟨λB=>x.n1 B,Bh x.g1,DL,AB (λB=>⟨λA=>x.n1 A,Bh x.g1,AB (λA=>⟨rfl,(EH _).both_t x H G rfl A⟩) λA=>⟨rfl,(EH _).both_f x H G A⟩⟩) λB=>(AB (λA=>⟨rfl,(EH _).both_t x H G rfl A⟩) λA=>⟨rfl,(EH _).both_f x H G A⟩)⟩),trv⟩) λh3=>⟨rfl,x.toAf,λF I=>(AB (λG=>⟨λB=>absurd B ∅,AB (λB=>⟨rfl,D1 (PQ G)⟩) λB=>⟨⟨λA=>absurd A ∅,DL⟩,rfl,x.toE2,λD A=>⟨rfl,(EH _).y (r:=D.1) (s':=D.2) x H (Wm B) A⟩,trv⟩⟩) λG=>⟨λB=>x.n1 B,Bh x.g1,DL,AB (λB=>⟨λA=>x.n1 A,Bh x.g1,AB (λA=>⟨rfl,(EH _).both_t x H G rfl A⟩) λA=>⟨rfl,(EH _).both_f x H G A⟩⟩) λB=>(AB (λA=>⟨rfl,(EH _).both_t x H G rfl A⟩) λA=>⟨rfl,(EH _).both_f x H G A⟩)⟩),trv⟩⟩),trv⟩
abbrev pU (J)(H):=(∀C:SS×Int,(Bu C.1/\0<=C.2/\C.2<=10)->rf (LA (ET false) C.1)/\Af C.1/\(∀E:Unit,True->let c:=oN (Bi J) 0;let d:=AZ J C.2;let f:=C.1.4;let i:=LX 0 c C (true,C.1);let j:=List.length f;let l:=C.1.3;let n:=LA (ET true) C.1;let o:=!decide (C.1.6=f);let t:=!AT f;let z:=Ac f;AF (!AT l) (λZ=>rf n/\Af C.1/\(∀F:Unit,True->AF (t) (λZ=>rf i/\Aa d C.1 true C.1) λZ=>f≠[]/\j.le 1000/\small H/\let h:=C.2-H * z;let p:=LA (Ai false Op.ne) (h.fdiv 1,C.1);let s:=cut Op.ne l (h.fdiv 1);let u:=(1:Int);let w:=(!h.fmod 1==0);AF (o) (λZ=>f≠[]/\j.le 1000/\(u=0->False)/\AF (w) (λZ=>rf i/\Aa d C.1 true C.1) λZ=>((u=0->False)/\small 1)/\rf p/\E2 C.1/\(∀D,D=AJ false s C.1->rf (LX 0 c C (D.1,D.2))/\Aa d C.1 D.1 D.2)/\True) λZ=>(u=0->False)/\AF (w) (λZ=>rf i/\Aa d C.1 true C.1) λZ=>((u=0->False)/\small 1)/\rf p/\E2 C.1/\(∀D,D=AJ false s C.1->rf (LX 0 c C (D.1,D.2))/\Aa d C.1 D.1 D.2)/\True)/\True) λZ=>l≠[]/\let a0:=List.length l;a0.le 1000/\small 1/\let a:=CS C.1.1 true l f C.1.5 C.1.6 C.1.7 C.1.8 C.1.9 C.1.10;let k:=LX 0 c C (false,a);let r:=(H:Int);let y:=Ac l;let b:=(!C.2-1 * y-H * z==0);let e:=LX 0 c C (!C.2-1 * y-H * z==0,C.1);let g:=C.2-1 * y;let m:=LA (Ai true Op.ne) (g.fdiv H,C.1);let q:=cut Op.ne f (g.fdiv H);let v:=(!g.fmod H==0);AF (!decide (C.1.5=l)) (λZ=>l≠[]/\a0.le 1000/\rf n/\Af C.1/\(∀F:Unit,True->AF (t) (λZ=>(r=0->False)/\AF (v) (λZ=>rf i/\Aa d C.1 true C.1) λZ=>((r=0->False)/\small H)/\rf m/\E2 C.1/\(∀D,D=AJ true q C.1->rf (LX 0 c C (D.1,D.2))/\Aa d C.1 D.1 D.2)/\True) λZ=>f≠[]/\j.le 1000/\small H/\AF (o) (λZ=>f≠[]/\j.le 1000/\AF (b) (λZ=>rf e/\Aa d C.1 b C.1) λZ=>rf k/\Aa d C.1 false a) λZ=>AF (b) (λZ=>rf e/\Aa d C.1 b C.1) λZ=>rf k/\Aa d C.1 false a)/\True) λZ=>rf n/\Af C.1/\(∀F:Unit,True->AF (t) (λZ=>(r=0->False)/\AF (v) (λZ=>rf i/\Aa d C.1 true C.1) λZ=>((r=0->False)/\small H)/\rf m/\E2 C.1/\(∀D,D=AJ true q C.1->rf (LX 0 c C (D.1,D.2))/\Aa d C.1 D.1 D.2)/\True) λZ=>f≠[]/\j.le 1000/\small H/\AF (o) (λZ=>f≠[]/\j.le 1000/\AF (b) (λZ=>rf e/\Aa d C.1 b C.1) λZ=>rf k/\Aa d C.1 false a) λZ=>AF (b) (λZ=>rf e/\Aa d C.1 b C.1) λZ=>rf k/\Aa d C.1 false a)/\True)/\True:Prop)
def gw:pU 3 1=AP Z5 75 BD (Bi 3):=∅
def gx:pU 5 2=AP Z5 75 BD (Bi 5):=∅
def XC:Is (AP Z5 75 BD (Bi 3))/\Is (AP Z5 75 BD (Bi 5)):=by
 show⟨AQ gw (zR ?_ @sW),AQ gx (zR ?_ @sX)⟩<;>
 (intro g
  intro C hp;have a:=hp.1;have hc:=hp.2;dsimp only;show⟨rfl,a.toAf,λE h1=>(AB (λf=>⟨rfl,a.toAf,λF h3=>(AB (λh=>⟨rfl,D1 (Jt f)⟩) λh=>⟨λd=>a.n1 d,Bh a.g1,DL,AB (λd=>⟨λc=>a.n1 c,Bh a.g1,λc=>absurd c ∅,AB (λc=>⟨rfl,D1 (Jt f)⟩) λc=>⟨⟨λb=>absurd b ∅,DL⟩,rfl,a.toE2,λD b=>⟨rfl,(g _).x (r:=D.1) (s':=D.2) a h Wl b⟩,trv⟩⟩) λd=>⟨λc=>absurd c ∅,AB (λc=>⟨rfl,D1 (Jt f)⟩) λc=>⟨⟨λb=>absurd b ∅,DL⟩,rfl,a.toE2,λD b=>⟨rfl,(g _).x (r:=D.1) (s':=D.2) a h Wl b⟩,trv⟩⟩⟩),trv⟩) λf=>⟨λh3=>a.n0 h3,Bh a.g0,DL,AB (λh3=>⟨λh=>a.n0 h,Bh a.g0,rfl,a.toAf,λF h=>(AB (λd=>⟨λc=>absurd c ∅,AB (λc=>⟨rfl,D1 (PQ d)⟩) λc=>⟨⟨λb=>absurd b ∅,DL⟩,rfl,a.toE2,λD b=>⟨rfl,(g _).y (r:=D.1) (s':=D.2) a f (Wm c) b⟩,trv⟩⟩) λd=>⟨λc=>a.n1 c,Bh a.g1,DL,AB (λc=>⟨λb=>a.n1 b,Bh a.g1,AB (λb=>⟨rfl,(g _).both_t a f d rfl b⟩) λb=>⟨rfl,(g _).both_f a f d b⟩⟩) λc=>(AB (λb=>⟨rfl,(g _).both_t a f d rfl b⟩) λb=>⟨rfl,(g _).both_f a f d b⟩)⟩),trv⟩) λh3=>⟨rfl,a.toAf,λF h=>(AB (λd=>⟨λc=>absurd c ∅,AB (λc=>⟨rfl,D1 (PQ d)⟩) λc=>⟨⟨λb=>absurd b ∅,DL⟩,rfl,a.toE2,λD b=>⟨rfl,(g _).y (r:=D.1) (s':=D.2) a f (Wm c) b⟩,trv⟩⟩) λd=>⟨λc=>a.n1 c,Bh a.g1,DL,AB (λc=>⟨λb=>a.n1 b,Bh a.g1,AB (λb=>⟨rfl,(g _).both_t a f d rfl b⟩) λb=>⟨rfl,(g _).both_f a f d b⟩⟩) λc=>(AB (λb=>⟨rfl,(g _).both_t a f d rfl b⟩) λb=>⟨rfl,(g _).both_f a f d b⟩)⟩),trv⟩⟩),trv⟩)
theorem tU:Is (AP Z5 75 BD (Bi 3)):=XC.1
theorem tV:Is (AP Z5 75 BD (Bi 5)):=XC.2
def pV {a b c d f g c' h:Int}:(a==f&&(b==g&&true)&&(c==c'&&(d==h&&true)&&true))=decide ([a,b,c,d]=[f,g,c',h]):=by
 simp[pe];rfl
def XD {a b c d f g c' i:Int}(h:(!(a==f&&(b==g&&true)&&(c==c'&&(d==i&&true)&&true)))=true):[a,b,c,d]≠[f,g,c',i]:=by
 rw[pV] at h;show NT (BG h)
def XE {a b c d f g c' i:Int}(h:(!(a==f&&(b==g&&true)&&(c==c'&&(d==i&&true)&&true)))=false):[a,b,c,d]=[f,g,c',i]:=by
 rw[pV] at h;show AAL (A3 h)
def tW:Is (AP (sZ 7) 75 BC (Bi 7)):=by
 show AQ (p:=∀B:SS×Int,(Bu B.1/\0<=B.2/\B.2<=10)->let n:=B.1.3;n≠[]/\let f:=List.length n;f.le 1000/\n≠[]/\f.le 1000/\let o:=B.1.4;o≠[]/\let g:=List.length o;g.le 1000/\o≠[]/\g.le 1000/\n≠[]/\f.le 1000/\n≠[]/\f.le 1000/\o≠[]/\g.le 1000/\o≠[]/\g.le 1000/\rf (LA (CD 1) (B.2,B.1))/\((Af B.1/\B.1.7.length.succ.le 890)/\(B.2 - -100).NonNeg/\(100-B.2).NonNeg)/\(∀C,C=BL (Hm 1) (Hn 1) B.2 B.1->let j:=AZ 7 B.2;let u:=oN (Bi 7) 0;AF (!C.1) (λZ=>rf (LX 0 u B (false,C.2))/\Aa j B.1 false C.2) λZ=>rf (LA (CD 4) (-B.2,C.2))/\((Af C.2/\C.2.7.length.succ.le 890)/\(-B.2 - -100).NonNeg/\(100 - -B.2).NonNeg)/\(∀F,F=BL (Hm 4) (Hn 4) (-B.2) C.2->AF (!F.1) (λZ=>rf (LX 0 u B (false,F.2))/\Aa j B.1 false F.2) λZ=>let a:=(F.2,B.2,((Ac n),(Ax n)),(Ac o),(Ax o));rf (LL (MS 7) a)/\AX 7 a a/\∀A:SS×Int×(Int×Int)×Int×Int,AX 7 a A->let b:=A.1.3;b≠[]/\let k:=List.length b;k.le 1000/\b≠[]/\k.le 1000/\let c:=A.1.4;c≠[]/\let l:=List.length c;l.le 1000/\c≠[]/\l.le 1000/\let h:=A.2.1;let m:=A.2.2;let q:=Ax b;let r:=Ax c;let s:=Ac b;let t:=Ac c;AF (!(m.1.1==s&&(m.1.2==q&&true)&&(m.2.1==t&&(m.2.2==r&&true)&&true))) (λZ=>b≠[]/\k.le 1000/\b≠[]/\k.le 1000/\c≠[]/\l.le 1000/\c≠[]/\l.le 1000/\rf (LA (CD 1) (h,A.1))/\((Af A.1/\A.1.7.length.succ.le 890)/\(h - -100).NonNeg/\(100-h).NonNeg)/\(∀D,D=BL (Hm 1) (Hn 1) h A.1->let d:=(Lf.v (Value.bool false)::[]);AF (!D.1) (λZ=>(Lf.i 1::Lf.i (-1)::Lf.i 0::Lf.i 1::Lf.i 1::Lf.i h::Lf.i 1::Lf.i 0::sL D.2 d)=(Lf.i 1::Lf.i (-1)::Lf.i 0::Lf.i 1::Lf.i 1::Lf.i B.2::Lf.i 1::Lf.i 0::sL D.2 d)/\Aa j B.1 false D.2) λZ=>rf (LA (CD 4) (-h,D.2))/\((Af D.2/\D.2.7.length.succ.le 890)/\(-h - -100).NonNeg/\(100 - -h).NonNeg)/\(∀E,E=BL (Hm 4) (Hn 4) (-h) D.2->AF (!E.1) (λZ=>(Lf.i 1::Lf.i (-1)::Lf.i 0::Lf.i 1::Lf.i 1::Lf.i h::Lf.i 1::Lf.i 0::sL E.2 d)=(Lf.i 1::Lf.i (-1)::Lf.i 0::Lf.i 1::Lf.i 1::Lf.i B.2::Lf.i 1::Lf.i 0::sL E.2 d)/\Aa j B.1 false E.2) λZ=>let e:=(E.2,h,(s,q),t,r);rf (LL (MS 7) e)/\AX 7 a e/\(AM E.2.3+AM E.2.4+if [s,q,t,r]=[Ac E.2.3,Ax E.2.3,Ac E.2.4,Ax E.2.4] then 0 else 1).succ.le (AM b+AM c+if [m.1.1,m.1.2,m.2.1,m.2.2]=[Ac b,Ax b,Ac c,Ax c] then 0 else 1))/\True)/\True) λZ=>(let p:=(Lf.v (Value.bool true)::[]);(Lf.i 1::Lf.i (-1)::Lf.i 0::Lf.i 1::Lf.i 1::Lf.i h::Lf.i 1::Lf.i 0::sL A.1 p)=(Lf.i 1::Lf.i (-1)::Lf.i 0::Lf.i 1::Lf.i 1::Lf.i B.2::Lf.i 1::Lf.i 0::sL A.1 p))/\Aa j B.1 true A.1)/\True)/\True) ∅ ?_;intro B hp;have v:=hp.1;have hc:=hp.2;dsimp only;show⟨λh1=>v.n0 h1,Bh v.g0,λh1=>v.n0 h1,Bh v.g0,λh1=>v.n1 h1,Bh v.g1,λh1=>v.n1 h1,Bh v.g1,λh1=>v.n0 h1,Bh v.g0,λh1=>v.n0 h1,Bh v.g0,λh1=>v.n1 h1,Bh v.g1,λh1=>v.n1 h1,Bh v.g1,rfl,⟨⟨v.toAf,v.tr_lt⟩,sP hc,sQ hc⟩,λC h1=>(AB (λz=>⟨rfl,(C3 _).fail1 (r:=C.1) (s':=C.2) v h1 z⟩) λz=>⟨rfl,⟨⟨((C3 _).pre1 (r:=C.1) (s':=C.2) v h1 z).toAf,((C3 _).pre1 (r:=C.1) (s':=C.2) v h1 z).tr_lt⟩,zN hc,zO hc⟩,λF h3=>(AB (λH=>⟨rfl,(C3 _).fail2 (r:=C.1) (s':=C.2) (r':=F.1) (s'':=F.2) v h1 z h3 H⟩) λH=>⟨rfl,⟨(C3 _).pre2 (r:=C.1) (s':=C.2) (r':=F.1) (s'':=F.2) v h1 z h3 H,Uw.refl _ _,rfl,λq f0 f1=>(C3 _).fin (r:=C.1) (s':=C.2) (r':=F.1) (s'':=F.2) v h1 z h3 H q f0 f1⟩,λA i=>⟨λy=>(i:AX 7 _ A).pre.n0 y,Be (Ar _ (i:AX 7 _ A).pre.g0),λy=>(i:AX 7 _ A).pre.n0 y,Be (Ar _ (i:AX 7 _ A).pre.g0),λy=>(i:AX 7 _ A).pre.n1 y,Be (Ar _ (i:AX 7 _ A).pre.g1),λy=>(i:AX 7 _ A).pre.n1 y,Be (Ar _ (i:AX 7 _ A).pre.g1),AB (λy=>⟨λw=>(i:AX 7 _ A).pre.n0 w,Be (Ar _ (i:AX 7 _ A).pre.g0),λw=>(i:AX 7 _ A).pre.n0 w,Be (Ar _ (i:AX 7 _ A).pre.g0),λw=>(i:AX 7 _ A).pre.n1 w,Be (Ar _ (i:AX 7 _ A).pre.g1),λw=>(i:AX 7 _ A).pre.n1 w,Be (Ar _ (i:AX 7 _ A).pre.g1),rfl,⟨⟨(i:AX 7 _ A).pre.toAf,(i:AX 7 _ A).pre.tr_lt⟩,sP (Ro (show A.2.1=B.2 from (i:AX 7 _ A).c) hc),sQ (Ro (show A.2.1=B.2 from (i:AX 7 _ A).c) hc)⟩,λD w=>(AB (λG=>⟨(by rw[show A.2.1=B.2 from (i:AX 7 _ A).c]),PR (i:AX 7 _ A) ((C3 _).full (r:=C.1) (s':=C.2) (r':=F.1) (s'':=F.2) v h1 z h3 H) rfl ((C3 _).fail1 (r:=D.1) (s':=D.2) (i:AX 7 _ A).pre w G)⟩) λG=>⟨rfl,⟨⟨((C3 _).pre1 (r:=D.1) (s':=D.2) (i:AX 7 _ A).pre w G).toAf,((C3 _).pre1 (r:=D.1) (s':=D.2) (i:AX 7 _ A).pre w G).tr_lt⟩,zN (Ro (show A.2.1=B.2 from (i:AX 7 _ A).c) hc),zO (Ro (show A.2.1=B.2 from (i:AX 7 _ A).c) hc)⟩,λE I=>(AB (λx=>⟨(by rw[show A.2.1=B.2 from (i:AX 7 _ A).c]),PR (i:AX 7 _ A) ((C3 _).full (r:=C.1) (s':=C.2) (r':=F.1) (s'':=F.2) v h1 z h3 H) rfl ((C3 _).fail2 (r:=D.1) (s':=D.2) (r':=E.1) (s'':=E.2) (i:AX 7 _ A).pre w G I x)⟩) λx=>⟨rfl,⟨(C3 _).pre2 (r:=D.1) (s':=D.2) (r':=E.1) (s'':=E.2) (i:AX 7 _ A).pre w G I x,(i:AX 7 _ A).st.trans ((C3 _).full (r:=D.1) (s':=D.2) (r':=E.1) (s'':=E.2) (i:AX 7 _ A).pre w G I x),(i:AX 7 _ A).c,λq f0 f1=>(C3 _).fin (r:=D.1) (s':=D.2) (r':=E.1) (s'':=E.2) (i:AX 7 _ A).pre w G I x q f0 f1⟩,OE ((C3 _).full (r:=D.1) (s':=D.2) (r':=E.1) (s'':=E.2) (i:AX 7 _ A).pre w G I x).gr (XD y)⟩),trv⟩),trv⟩) λy=>⟨(by rw[show A.2.1=B.2 from (i:AX 7 _ A).c]),o0 (i:AX 7 _ A) ((C3 _).full (r:=C.1) (s':=C.2) (r':=F.1) (s'':=F.2) v h1 z h3 H) rfl (XE y)⟩⟩⟩),trv⟩),trv⟩
abbrev pW (J)(H)(N)(U):=(∀B:SS×Int,(Bu B.1/\0<=B.2/\B.2<=10)->let n:=B.1.3;n≠[]/\(let g:=List.length n;g.le 1000/\n≠[]/\g.le 1000/\let o:=B.1.4;o≠[]/\let h:=List.length o;h.le 1000/\o≠[]/\h.le 1000/\n≠[]/\g.le 1000/\n≠[]/\g.le 1000/\o≠[]/\h.le 1000/\o≠[]/\h.le 1000/\rf (LA (CD J) (B.2,B.1))/\((Af B.1/\B.1.7.length.succ.le 890)/\(B.2 - -100).NonNeg/\(100-B.2).NonNeg)/\(∀C,C=BL (Hm J) (Hn J) B.2 B.1->let f:=AZ H B.2;let s:=oN (Bi H) 0;AF (!C.1) (λZ=>rf (LX 0 s B (false,C.2))/\Aa f B.1 false C.2) λZ=>rf (LA (CD N) (-B.2,C.2))/\((Af C.2/\C.2.7.length.succ.le 890)/\(-B.2 - -100).NonNeg/\(100 - -B.2).NonNeg)/\(∀F,F=BL (Hm N) (Hn N) (-B.2) C.2->AF (!F.1) (λZ=>rf (LX 0 s B (false,F.2))/\Aa f B.1 false F.2) λZ=>let a:=(F.2,B.2,((Ac n),(Ax n)),(Ac o),(Ax o));rf (LL (MS H) a)/\AX H a a/\∀A:SS×Int×(Int×Int)×Int×Int,AX H a A->let b:=A.1.3;b≠[]/\let k:=List.length b;k.le 1000/\b≠[]/\k.le 1000/\let c:=A.1.4;c≠[]/\let l:=List.length c;l.le 1000/\c≠[]/\l.le 1000/\let j:=A.2.1;let m:=A.2.2;let q:=Ax b;let r:=Ax c;let t:=Ac b;let u:=Ac c;AF (!(m.1.1==t&&(m.1.2==q&&true)&&(m.2.1==u&&(m.2.2==r&&true)&&true))) (λZ=>b≠[]/\k.le 1000/\b≠[]/\k.le 1000/\c≠[]/\l.le 1000/\c≠[]/\l.le 1000/\rf (LA (CD J) (j,A.1))/\((Af A.1/\A.1.7.length.succ.le 890)/\(j - -100).NonNeg/\(100-j).NonNeg)/\(∀D,D=BL (Hm J) (Hn J) j A.1->let d:=(Lf.v (Value.bool false)::[]);AF (!D.1) (λZ=>(Lf.i 1::Lf.i U::Lf.i 0::Lf.i 1::Lf.i 1::Lf.i j::Lf.i 1::Lf.i 0::sL D.2 d)=(Lf.i 1::Lf.i U::Lf.i 0::Lf.i 1::Lf.i 1::Lf.i B.2::Lf.i 1::Lf.i 0::sL D.2 d)/\Aa f B.1 false D.2) λZ=>rf (LA (CD N) (-j,D.2))/\((Af D.2/\D.2.7.length.succ.le 890)/\(-j - -100).NonNeg/\(100 - -j).NonNeg)/\(∀E,E=BL (Hm N) (Hn N) (-j) D.2->AF (!E.1) (λZ=>(Lf.i 1::Lf.i U::Lf.i 0::Lf.i 1::Lf.i 1::Lf.i j::Lf.i 1::Lf.i 0::sL E.2 d)=(Lf.i 1::Lf.i U::Lf.i 0::Lf.i 1::Lf.i 1::Lf.i B.2::Lf.i 1::Lf.i 0::sL E.2 d)/\Aa f B.1 false E.2) λZ=>let e:=(E.2,j,(t,q),u,r);rf (LL (MS H) e)/\AX H a e/\(AM E.2.3+AM E.2.4+if [t,q,u,r]=[Ac E.2.3,Ax E.2.3,Ac E.2.4,Ax E.2.4] then 0 else 1).succ.le (AM b+AM c+if [m.1.1,m.1.2,m.2.1,m.2.2]=[Ac b,Ax b,Ac c,Ax c] then 0 else 1))/\True)/\True) λZ=>(let p:=(Lf.v (Value.bool true)::[]);(Lf.i 1::Lf.i U::Lf.i 0::Lf.i 1::Lf.i 1::Lf.i j::Lf.i 1::Lf.i 0::sL A.1 p)=(Lf.i 1::Lf.i U::Lf.i 0::Lf.i 1::Lf.i 1::Lf.i B.2::Lf.i 1::Lf.i 0::sL A.1 p))/\Aa f B.1 true A.1)/\True)/\True):Prop)
def gy:pW 0 6 3 1=AP (sZ 6) 75 BC (Bi 6):=∅
def gz:pW 2 8 5 2=AP (sZ 8) 75 BC (Bi 8):=∅
def XF:Is (AP (sZ 6) 75 BC (Bi 6))/\Is (AP (sZ 8) 75 BC (Bi 8)):=by
 show⟨AQ gy (zR ?_ @sU),AQ gz (zR ?_ @sV)⟩<;>
 (intro c
  intro B hp;have b:=hp.1;have hc:=hp.2;dsimp only;show⟨λh1=>b.n0 h1,Bh b.g0,λh1=>b.n0 h1,Bh b.g0,λh1=>b.n1 h1,Bh b.g1,λh1=>b.n1 h1,Bh b.g1,λh1=>b.n0 h1,Bh b.g0,λh1=>b.n0 h1,Bh b.g0,λh1=>b.n1 h1,Bh b.g1,λh1=>b.n1 h1,Bh b.g1,rfl,⟨⟨b.toAf,b.tr_lt⟩,sP hc,sQ hc⟩,λC h1=>(AB (λh=>⟨rfl,(c _).fail1 (r:=C.1) (s':=C.2) b h1 h⟩) λh=>⟨rfl,⟨⟨((c _).pre1 (r:=C.1) (s':=C.2) b h1 h).toAf,((c _).pre1 (r:=C.1) (s':=C.2) b h1 h).tr_lt⟩,zN hc,zO hc⟩,λF h3=>(AB (λj=>⟨rfl,(c _).fail2 (r:=C.1) (s':=C.2) (r':=F.1) (s'':=F.2) b h1 h h3 j⟩) λj=>⟨rfl,⟨(c _).pre2 (r:=C.1) (s':=C.2) (r':=F.1) (s'':=F.2) b h1 h h3 j,Uw.refl _ _,rfl,λq f0 f1=>(c _).fin (r:=C.1) (s':=C.2) (r':=F.1) (s'':=F.2) b h1 h h3 j q f0 f1⟩,λA a=>⟨λg=>(a:AX _ _ A).pre.n0 g,Be (Ar _ (a:AX _ _ A).pre.g0),λg=>(a:AX _ _ A).pre.n0 g,Be (Ar _ (a:AX _ _ A).pre.g0),λg=>(a:AX _ _ A).pre.n1 g,Be (Ar _ (a:AX _ _ A).pre.g1),λg=>(a:AX _ _ A).pre.n1 g,Be (Ar _ (a:AX _ _ A).pre.g1),AB (λg=>⟨λd=>(a:AX _ _ A).pre.n0 d,Be (Ar _ (a:AX _ _ A).pre.g0),λd=>(a:AX _ _ A).pre.n0 d,Be (Ar _ (a:AX _ _ A).pre.g0),λd=>(a:AX _ _ A).pre.n1 d,Be (Ar _ (a:AX _ _ A).pre.g1),λd=>(a:AX _ _ A).pre.n1 d,Be (Ar _ (a:AX _ _ A).pre.g1),rfl,⟨⟨(a:AX _ _ A).pre.toAf,(a:AX _ _ A).pre.tr_lt⟩,sP (Ro (show A.2.1=B.2 from (a:AX _ _ A).c) hc),sQ (Ro (show A.2.1=B.2 from (a:AX _ _ A).c) hc)⟩,λD d=>(AB (λi=>⟨(by rw[show A.2.1=B.2 from (a:AX _ _ A).c]),PR (a:AX _ _ A) ((c _).full (r:=C.1) (s':=C.2) (r':=F.1) (s'':=F.2) b h1 h h3 j) rfl ((c _).fail1 (r:=D.1) (s':=D.2) (a:AX _ _ A).pre d i)⟩) λi=>⟨rfl,⟨⟨((c _).pre1 (r:=D.1) (s':=D.2) (a:AX _ _ A).pre d i).toAf,((c _).pre1 (r:=D.1) (s':=D.2) (a:AX _ _ A).pre d i).tr_lt⟩,zN (Ro (show A.2.1=B.2 from (a:AX _ _ A).c) hc),zO (Ro (show A.2.1=B.2 from (a:AX _ _ A).c) hc)⟩,λE k=>(AB (λf=>⟨(by rw[show A.2.1=B.2 from (a:AX _ _ A).c]),PR (a:AX _ _ A) ((c _).full (r:=C.1) (s':=C.2) (r':=F.1) (s'':=F.2) b h1 h h3 j) rfl ((c _).fail2 (r:=D.1) (s':=D.2) (r':=E.1) (s'':=E.2) (a:AX _ _ A).pre d i k f)⟩) λf=>⟨rfl,⟨(c _).pre2 (r:=D.1) (s':=D.2) (r':=E.1) (s'':=E.2) (a:AX _ _ A).pre d i k f,(a:AX _ _ A).st.trans ((c _).full (r:=D.1) (s':=D.2) (r':=E.1) (s'':=E.2) (a:AX _ _ A).pre d i k f),(a:AX _ _ A).c,λq f0 f1=>(c _).fin (r:=D.1) (s':=D.2) (r':=E.1) (s'':=E.2) (a:AX _ _ A).pre d i k f q f0 f1⟩,OE ((c _).full (r:=D.1) (s':=D.2) (r':=E.1) (s'':=E.2) (a:AX _ _ A).pre d i k f).gr (XD g)⟩),trv⟩),trv⟩) λg=>⟨(by rw[show A.2.1=B.2 from (a:AX _ _ A).c]),o0 (a:AX _ _ A) ((c _).full (r:=C.1) (s':=C.2) (r':=F.1) (s'':=F.2) b h1 h h3 j) rfl (XE g)⟩⟩⟩),trv⟩),trv⟩)
theorem tX:Is (AP (sZ 6) 75 BC (Bi 6)):=XF.1
theorem tY:Is (AP (sZ 8) 75 BC (Bi 8)):=XF.2
theorem AAi:Is (AP Z6 19 Cn (Cu false (-1))):=AQ (p:=∀B:SS×ES×VS,True->let a:=CS B.1.1 B.1.2 B.1.3 B.1.4 B.1.5 B.1.6 B.1.7 B.1.8 false false;let c:=B.2.1;let d:=oN (Cu false (-1)) 0;let h:=B.1.10;let i:=B.1.9;let b:=(a,(Ee (i||(h||c.1)) c.2 (true&&(i||h)||c.3) (false||c.4) c.5 c.6 (i||c.7) (h||c.8)));(i=false->h=false->rf (LX 0 d B (a,B.2.1))/\(a,B.2.1)=b)/\(i=true->h=false->let e:=(a,(Ee true c.2 true c.4 c.5 c.6 true c.8));rf (LX 0 d B e)/\e=b)/\(i=false->h=true->let f:=(a,(Ee true c.2 true c.4 c.5 c.6 c.7 true));rf (LX 0 d B f)/\f=b)/\(i=true->h=true->let g:=(a,(Ee true c.2 true c.4 c.5 c.6 true true));rf (LX 0 d B g)/\g=b)) ∅ λB hp=>by
 dsimp only;show⟨?_,?_,?_,?_⟩<;>show λh1 j=>⟨rfl,(by rw[h1,j];first|done|kernel_rfl)⟩
theorem lf:Is (AP Z6 19 Cn (Cu false 0)):=AQ (p:=∀B:SS×ES×VS,True->let a:=CS B.1.1 B.1.2 B.1.3 B.1.4 B.1.5 B.1.6 B.1.7 B.1.8 false false;let c:=B.2.1;let d:=oN (Cu false 0) 0;let h:=B.1.10;let i:=B.1.9;let b:=(a,(Ee (i||(h||c.1)) c.2 (false||c.3) (false||c.4) c.5 c.6 (i||c.7) (h||c.8)));(i=false->h=false->rf (LX 0 d B (a,B.2.1))/\(a,B.2.1)=b)/\(i=true->h=false->let e:=(a,(Ee true c.2 c.3 c.4 c.5 c.6 true c.8));rf (LX 0 d B e)/\e=b)/\(i=false->h=true->let f:=(a,(Ee true c.2 c.3 c.4 c.5 c.6 c.7 true));rf (LX 0 d B f)/\f=b)/\(i=true->h=true->let g:=(a,(Ee true c.2 c.3 c.4 c.5 c.6 true true));rf (LX 0 d B g)/\g=b)) ∅ λB hp=>by
 dsimp only;show⟨?_,?_,?_,?_⟩<;>show λh1 j=>⟨rfl,(by rw[h1,j];first|done|kernel_rfl)⟩
theorem lh:Is (AP Z6 19 Cn (Cu true (-1))):=AQ (p:=∀B:SS×ES×VS,True->let b:=CS B.1.1 B.1.2 B.1.3 B.1.4 B.1.5 B.1.6 B.1.7 B.1.8 false false;let c:=B.2.1;let d:=oN (Cu true (-1)) 0;let h:=B.1.10;let i:=B.1.9;let a:=(b,(Ee (i||(h||c.1)) c.2 (true&&(i||h)||c.3) (true&&(true&&(i||h))||c.4) c.5 c.6 (i||c.7) (h||c.8)));(i=false->h=false->rf (LX 0 d B (b,B.2.1))/\(b,B.2.1)=a)/\(i=true->h=false->let e:=(b,(Ee true c.2 true true c.5 c.6 true c.8));rf (LX 0 d B e)/\e=a)/\(i=false->h=true->let f:=(b,(Ee true c.2 true true c.5 c.6 c.7 true));rf (LX 0 d B f)/\f=a)/\(i=true->h=true->let g:=(b,(Ee true c.2 true true c.5 c.6 true true));rf (LX 0 d B g)/\g=a)) ∅ λB hp=>by
 dsimp only;show⟨?_,?_,?_,?_⟩<;>show λh1 j=>⟨rfl,(by rw[h1,j];first|done|kernel_rfl)⟩
theorem li:Is (AP Z6 19 Cn (Cu true 0)):=AQ (p:=∀B:SS×ES×VS,True->let a:=CS B.1.1 B.1.2 B.1.3 B.1.4 B.1.5 B.1.6 B.1.7 B.1.8 false false;let c:=B.2.1;let d:=oN (Cu true 0) 0;let h:=B.1.10;let i:=B.1.9;let b:=(a,(Ee (i||(h||c.1)) c.2 (false||c.3) (true&&(true&&(i||h))||c.4) c.5 c.6 (i||c.7) (h||c.8)));(i=false->h=false->rf (LX 0 d B (a,B.2.1))/\(a,B.2.1)=b)/\(i=true->h=false->let e:=(a,(Ee true c.2 c.3 true c.5 c.6 true c.8));rf (LX 0 d B e)/\e=b)/\(i=false->h=true->let f:=(a,(Ee true c.2 c.3 true c.5 c.6 c.7 true));rf (LX 0 d B f)/\f=b)/\(i=true->h=true->let g:=(a,(Ee true c.2 c.3 true c.5 c.6 true true));rf (LX 0 d B g)/\g=b)) ∅ λB hp=>by
 dsimp only;show⟨?_,?_,?_,?_⟩<;>show λh1 j=>⟨rfl,(by rw[h1,j];first|done|kernel_rfl)⟩
theorem ll:Is (AP Z6 19 Cn (Cu true 1)):=AQ (p:=∀B:SS×ES×VS,True->let a:=CS B.1.1 B.1.2 B.1.3 B.1.4 B.1.5 B.1.6 B.1.7 B.1.8 false false;let c:=B.2.1;let d:=oN (Cu true 1) 0;let h:=B.1.10;let i:=B.1.9;let b:=(a,(Ee (i||(h||c.1)) c.2 (true&&(i||h)||c.3) (false||c.4) c.5 c.6 (i||c.7) (h||c.8)));(i=false->h=false->rf (LX 0 d B (a,B.2.1))/\(a,B.2.1)=b)/\(i=true->h=false->let e:=(a,(Ee true c.2 true c.4 c.5 c.6 true c.8));rf (LX 0 d B e)/\e=b)/\(i=false->h=true->let f:=(a,(Ee true c.2 true c.4 c.5 c.6 c.7 true));rf (LX 0 d B f)/\f=b)/\(i=true->h=true->let g:=(a,(Ee true c.2 true c.4 c.5 c.6 true true));rf (LX 0 d B g)/\g=b)) ∅ λB hp=>by
 dsimp only;show⟨?_,?_,?_,?_⟩<;>show λh1 j=>⟨rfl,(by rw[h1,j];first|done|kernel_rfl)⟩
def lm:Is (AP Z7 87 Dc (MV false)):=by
 show AQ (p:=∀B:SS×ES×VS,(Rr false B.1 B.2.1 B.2.2/\(B.2.1.3=true∨B.2.1.4=true))->let a:=CS 0 B.1.2 B.1.3 B.1.4 B.1.5 B.1.6 B.1.7 B.1.8 B.1.9 B.1.10;let g:=oN (MV false) 0;let j:=IV false;let q:=B.2.1;let b:=q;let h:=Ee b.1 b.2 false b.4 false b.6 b.7 b.8;let i:=Ee b.1 b.2 false b.4 b.5 b.6 b.7 b.8;let r:=B.2.2;let c:=r;let d:=LA (MT c.1) (a,c.2);let e:=H0 c.1 c.2 0 0;let f:=AZ c.1 c.2;let k:=10-c.2;let l:=c.2-0;AF b.1 (λZ=>(b.3=true->b.3=true/\(b.5=true->rf d/\(Bu a/\(l.NonNeg/\k.NonNeg)/\B.2.2.1.succ.le 9)/\(∀A:Bool×SS,Aa f a A.1 A.2->let m:=A.2.1;rf (LA j (m,A.2,h,e))/\(m=-1∨m=0∨m=1/\false=true)/\(∀C,C=((CS m A.2.2 A.2.3 A.2.4 A.2.5 A.2.6 A.2.7 A.2.8 false false),(Ee (A.2.9||(A.2.10||b.1)) b.2 (decide (m≠0)&&(A.2.9||A.2.10)||false) b.4 false b.6 (A.2.9||b.7) (A.2.10||b.8)))->rf (LX 0 g B (A.1,C.1,C.2))/\Fb false B.1 q r A.1 C.1 C.2)/\True)/\True)/\(b.5=false->rf d/\(Bu a/\(l.NonNeg/\k.NonNeg)/\B.2.2.1.succ.le 9)/\(∀A:Bool×SS,Aa f a A.1 A.2->let n:=A.2.1;rf (LA j (n,A.2,i,e))/\(n=-1∨n=0∨n=1/\false=true)/\(∀C,C=((CS n A.2.2 A.2.3 A.2.4 A.2.5 A.2.6 A.2.7 A.2.8 false false),(Ee (A.2.9||(A.2.10||b.1)) b.2 (decide (n≠0)&&(A.2.9||A.2.10)||false) b.4 b.5 b.6 (A.2.9||b.7) (A.2.10||b.8)))->rf (LX 0 g B (A.1,C.1,C.2))/\Fb false B.1 q r A.1 C.1 C.2)/\True)/\True))/\(b.3=false->b.4=true/\b.4=true/\(b.6=true->False)/\(b.6=false->False))) (λZ=>(b.3=true->b.3=true/\(b.5=true->rf d/\(Bu a/\(l.NonNeg/\k.NonNeg)/\B.2.2.1.succ.le 9)/\(∀A:Bool×SS,Aa f a A.1 A.2->let o:=A.2.1;rf (LA j (o,A.2,h,e))/\(o=-1∨o=0∨o=1/\false=true)/\(∀C,C=((CS o A.2.2 A.2.3 A.2.4 A.2.5 A.2.6 A.2.7 A.2.8 false false),(Ee (A.2.9||(A.2.10||b.1)) b.2 (decide (o≠0)&&(A.2.9||A.2.10)||false) b.4 false b.6 (A.2.9||b.7) (A.2.10||b.8)))->rf (LX 0 g B (A.1,C.1,C.2))/\Fb false B.1 q r A.1 C.1 C.2)/\True)/\True)/\(b.5=false->rf d/\(Bu a/\(l.NonNeg/\k.NonNeg)/\B.2.2.1.succ.le 9)/\(∀A:Bool×SS,Aa f a A.1 A.2->let p:=A.2.1;rf (LA j (p,A.2,i,e))/\(p=-1∨p=0∨p=1/\false=true)/\(∀C,C=((CS p A.2.2 A.2.3 A.2.4 A.2.5 A.2.6 A.2.7 A.2.8 false false),(Ee (A.2.9||(A.2.10||b.1)) b.2 (decide (p≠0)&&(A.2.9||A.2.10)||false) b.4 b.5 b.6 (A.2.9||b.7) (A.2.10||b.8)))->rf (LX 0 g B (A.1,C.1,C.2))/\Fb false B.1 q r A.1 C.1 C.2)/\True)/\True))/\(b.3=false->b.4=true/\b.4=true/\(b.6=true->False)/\(b.6=false->False)))) ∅ ?_;intro B hp;have s:=hp.1;have v:=hp.2;dsimp only;show(AB (λh1=>⟨λt=>⟨t,λh3=>⟨rfl,⟨s.pre.speak 0,⟨s.vs.one.c0,s.vs.one.c1⟩,s.vs.one.lt⟩,λA u=>⟨rfl,Or.inr (Or.inl u.sp),λC w=>⟨rfl,FG (s₁:=A.2) false rfl t u w⟩,trv⟩,trv⟩,λh3=>⟨rfl,⟨s.pre.speak 0,⟨s.vs.one.c0,s.vs.one.c1⟩,s.vs.one.lt⟩,λA u=>⟨rfl,Or.inr (Or.inl u.sp),λC w=>⟨rfl,FG (s₁:=A.2) B.2.1.5 h3 t u w⟩,trv⟩,trv⟩⟩,λt=>⟨Zj v t,Zj v t,λh3=>Aj (Zj v t) (s.w rfl),λh3=>Aj (Zj v t) (s.w rfl)⟩⟩) λh1=>⟨λt=>⟨t,λh3=>⟨rfl,⟨s.pre.speak 0,⟨s.vs.one.c0,s.vs.one.c1⟩,s.vs.one.lt⟩,λA u=>⟨rfl,Or.inr (Or.inl u.sp),λC w=>⟨rfl,FG (s₁:=A.2) false rfl t u w⟩,trv⟩,trv⟩,λh3=>⟨rfl,⟨s.pre.speak 0,⟨s.vs.one.c0,s.vs.one.c1⟩,s.vs.one.lt⟩,λA u=>⟨rfl,Or.inr (Or.inl u.sp),λC w=>⟨rfl,FG (s₁:=A.2) B.2.1.5 h3 t u w⟩,trv⟩,trv⟩⟩,λt=>⟨Zj v t,Zj v t,λh3=>Aj (Zj v t) (s.w rfl),λh3=>Aj (Zj v t) (s.w rfl)⟩⟩)
def lq:Is (AP Z7 87 Dc (MV true)):=by
 show AQ (p:=∀B:SS×ES×VS,(Rr true B.1 B.2.1 B.2.2/\(B.2.1.3=true∨B.2.1.4=true))->let a:=CS 0 B.1.2 B.1.3 B.1.4 B.1.5 B.1.6 B.1.7 B.1.8 B.1.9 B.1.10;let b:=CS 1 B.1.2 B.1.3 B.1.4 B.1.5 B.1.6 B.1.7 B.1.8 B.1.9 B.1.10;let e:=oN (MV true) 0;let h:=B.2.2;let d:=h;let f:=LA (MT d.1) (a,d.2);let g:=LA (MT d.3) (b,d.4);let i:=IV true;let j:=AZ d.1 d.2;let k:=AZ d.3 d.4;let p:=B.2.1;let c:=p;let l:=Ee c.1 c.2 false c.4 false c.6 c.7 c.8;let m:=Ee c.1 c.2 false c.4 c.5 c.6 c.7 c.8;let n:=Ee c.1 c.2 c.3 false c.5 false c.7 c.8;let o:=Ee c.1 c.2 c.3 false c.5 c.6 c.7 c.8;let q:=10-d.2;let r:=10-d.4;let b0:=d.2-0;let c0:=d.4-0;AF c.1 (λZ=>(c.3=true->c.3=true/\(c.5=true->rf f/\(Bu a/\(b0.NonNeg/\q.NonNeg)/\B.2.2.1.succ.le 9)/\(∀A:Bool×SS,Aa j a A.1 A.2->let s:=A.2.1;rf (LA i (s,A.2,l,h))/\(s=-1∨s=0∨s=1/\true=true)/\(∀C:SS×ES,(let d0:=A.2.9||A.2.10;C=((CS s A.2.2 A.2.3 A.2.4 A.2.5 A.2.6 A.2.7 A.2.8 false false),(Ee (A.2.9||(A.2.10||c.1)) c.2 (decide (s≠0)&&d0||false) (true&&(decide (s≠1)&&d0)||c.4) false c.6 (A.2.9||c.7) (A.2.10||c.8))))->rf (LX 0 e B (A.1,C.1,C.2))/\Fb true B.1 p h A.1 C.1 C.2)/\True)/\True)/\(c.5=false->rf f/\(Bu a/\(b0.NonNeg/\q.NonNeg)/\B.2.2.1.succ.le 9)/\(∀A:Bool×SS,Aa j a A.1 A.2->let t:=A.2.1;rf (LA i (t,A.2,m,h))/\(t=-1∨t=0∨t=1/\true=true)/\(∀C:SS×ES,(let e0:=A.2.9||A.2.10;C=((CS t A.2.2 A.2.3 A.2.4 A.2.5 A.2.6 A.2.7 A.2.8 false false),(Ee (A.2.9||(A.2.10||c.1)) c.2 (decide (t≠0)&&e0||false) (true&&(decide (t≠1)&&e0)||c.4) c.5 c.6 (A.2.9||c.7) (A.2.10||c.8))))->rf (LX 0 e B (A.1,C.1,C.2))/\Fb true B.1 p h A.1 C.1 C.2)/\True)/\True))/\(c.3=false->c.4=true/\c.4=true/\(c.6=true->rf g/\(Bu b/\(c0.NonNeg/\r.NonNeg)/\B.2.2.3.succ.le 9)/\(∀A:Bool×SS,Aa k b A.1 A.2->let u:=A.2.1;rf (LA i (u,A.2,n,h))/\(u=-1∨u=0∨u=1/\true=true)/\(∀C:SS×ES,(let f0:=A.2.9||A.2.10;C=((CS u A.2.2 A.2.3 A.2.4 A.2.5 A.2.6 A.2.7 A.2.8 false false),(Ee (A.2.9||(A.2.10||c.1)) c.2 (decide (u≠0)&&f0||c.3) (true&&(decide (u≠1)&&f0)||false) c.5 false (A.2.9||c.7) (A.2.10||c.8))))->rf (LX 0 e B (A.1,C.1,C.2))/\Fb true B.1 p h A.1 C.1 C.2)/\True)/\True)/\(c.6=false->rf g/\(Bu b/\(c0.NonNeg/\r.NonNeg)/\B.2.2.3.succ.le 9)/\(∀A:Bool×SS,Aa k b A.1 A.2->let v:=A.2.1;rf (LA i (v,A.2,o,h))/\(v=-1∨v=0∨v=1/\true=true)/\(∀C:SS×ES,(let g0:=A.2.9||A.2.10;C=((CS v A.2.2 A.2.3 A.2.4 A.2.5 A.2.6 A.2.7 A.2.8 false false),(Ee (A.2.9||(A.2.10||c.1)) c.2 (decide (v≠0)&&g0||c.3) (true&&(decide (v≠1)&&g0)||false) c.5 c.6 (A.2.9||c.7) (A.2.10||c.8))))->rf (LX 0 e B (A.1,C.1,C.2))/\Fb true B.1 p h A.1 C.1 C.2)/\True)/\True))) (λZ=>(c.3=true->c.3=true/\(c.5=true->rf f/\(Bu a/\(b0.NonNeg/\q.NonNeg)/\B.2.2.1.succ.le 9)/\(∀A:Bool×SS,Aa j a A.1 A.2->let w:=A.2.1;rf (LA i (w,A.2,l,h))/\(w=-1∨w=0∨w=1/\true=true)/\(∀C:SS×ES,(let h0:=A.2.9||A.2.10;C=((CS w A.2.2 A.2.3 A.2.4 A.2.5 A.2.6 A.2.7 A.2.8 false false),(Ee (A.2.9||(A.2.10||c.1)) c.2 (decide (w≠0)&&h0||false) (true&&(decide (w≠1)&&h0)||c.4) false c.6 (A.2.9||c.7) (A.2.10||c.8))))->rf (LX 0 e B (A.1,C.1,C.2))/\Fb true B.1 p h A.1 C.1 C.2)/\True)/\True)/\(c.5=false->rf f/\(Bu a/\(b0.NonNeg/\q.NonNeg)/\B.2.2.1.succ.le 9)/\(∀A:Bool×SS,Aa j a A.1 A.2->let y:=A.2.1;rf (LA i (y,A.2,m,h))/\(y=-1∨y=0∨y=1/\true=true)/\(∀C:SS×ES,(let H:=A.2.9||A.2.10;C=((CS y A.2.2 A.2.3 A.2.4 A.2.5 A.2.6 A.2.7 A.2.8 false false),(Ee (A.2.9||(A.2.10||c.1)) c.2 (decide (y≠0)&&H||false) (true&&(decide (y≠1)&&H)||c.4) c.5 c.6 (A.2.9||c.7) (A.2.10||c.8))))->rf (LX 0 e B (A.1,C.1,C.2))/\Fb true B.1 p h A.1 C.1 C.2)/\True)/\True))/\(c.3=false->c.4=true/\c.4=true/\(c.6=true->rf g/\(Bu b/\(c0.NonNeg/\r.NonNeg)/\B.2.2.3.succ.le 9)/\(∀A:Bool×SS,Aa k b A.1 A.2->let z:=A.2.1;rf (LA i (z,A.2,n,h))/\(z=-1∨z=0∨z=1/\true=true)/\(∀C:SS×ES,(let I:=A.2.9||A.2.10;C=((CS z A.2.2 A.2.3 A.2.4 A.2.5 A.2.6 A.2.7 A.2.8 false false),(Ee (A.2.9||(A.2.10||c.1)) c.2 (decide (z≠0)&&I||c.3) (true&&(decide (z≠1)&&I)||false) c.5 false (A.2.9||c.7) (A.2.10||c.8))))->rf (LX 0 e B (A.1,C.1,C.2))/\Fb true B.1 p h A.1 C.1 C.2)/\True)/\True)/\(c.6=false->rf g/\(Bu b/\(c0.NonNeg/\r.NonNeg)/\B.2.2.3.succ.le 9)/\(∀A:Bool×SS,Aa k b A.1 A.2->let a0:=A.2.1;rf (LA i (a0,A.2,o,h))/\(a0=-1∨a0=0∨a0=1/\true=true)/\(∀C:SS×ES,(let k0:=A.2.9||A.2.10;C=((CS a0 A.2.2 A.2.3 A.2.4 A.2.5 A.2.6 A.2.7 A.2.8 false false),(Ee (A.2.9||(A.2.10||c.1)) c.2 (decide (a0≠0)&&k0||c.3) (true&&(decide (a0≠1)&&k0)||false) c.5 c.6 (A.2.9||c.7) (A.2.10||c.8))))->rf (LX 0 e B (A.1,C.1,C.2))/\Fb true B.1 p h A.1 C.1 C.2)/\True)/\True)))) ∅ ?_;intro B hp;have x:=hp.1;have G:=hp.2;dsimp only;show(AB (λh1=>⟨λE=>⟨E,λh3=>⟨rfl,⟨x.pre.speak 0,⟨x.vs.one.c0,x.vs.one.c1⟩,x.vs.one.lt⟩,λA D=>⟨rfl,Or.inr (Or.inl D.sp),λC F=>⟨rfl,FG (s₁:=A.2) false rfl E D F⟩,trv⟩,trv⟩,λh3=>⟨rfl,⟨x.pre.speak 0,⟨x.vs.one.c0,x.vs.one.c1⟩,x.vs.one.lt⟩,λA D=>⟨rfl,Or.inr (Or.inl D.sp),λC F=>⟨rfl,FG (s₁:=A.2) B.2.1.5 h3 E D F⟩,trv⟩,trv⟩⟩,λE=>⟨Zj G E,Zj G E,λh3=>⟨rfl,⟨x.pre.speak 1,⟨(x.vs.two rfl).c0,(x.vs.two rfl).c1⟩,(x.vs.two rfl).lt⟩,λA D=>⟨rfl,Or.inr (Or.inr ⟨D.sp,rfl⟩),λC F=>⟨rfl,Kw (s₁:=A.2) false rfl rfl E D F⟩,trv⟩,trv⟩,λh3=>⟨rfl,⟨x.pre.speak 1,⟨(x.vs.two rfl).c0,(x.vs.two rfl).c1⟩,(x.vs.two rfl).lt⟩,λA D=>⟨rfl,Or.inr (Or.inr ⟨D.sp,rfl⟩),λC F=>⟨rfl,Kw (s₁:=A.2) B.2.1.6 h3 rfl E D F⟩,trv⟩,trv⟩⟩⟩) λh1=>⟨λE=>⟨E,λh3=>⟨rfl,⟨x.pre.speak 0,⟨x.vs.one.c0,x.vs.one.c1⟩,x.vs.one.lt⟩,λA D=>⟨rfl,Or.inr (Or.inl D.sp),λC F=>⟨rfl,FG (s₁:=A.2) false rfl E D F⟩,trv⟩,trv⟩,λh3=>⟨rfl,⟨x.pre.speak 0,⟨x.vs.one.c0,x.vs.one.c1⟩,x.vs.one.lt⟩,λA D=>⟨rfl,Or.inr (Or.inl D.sp),λC F=>⟨rfl,FG (s₁:=A.2) B.2.1.5 h3 E D F⟩,trv⟩,trv⟩⟩,λE=>⟨Zj G E,Zj G E,λh3=>⟨rfl,⟨x.pre.speak 1,⟨(x.vs.two rfl).c0,(x.vs.two rfl).c1⟩,(x.vs.two rfl).lt⟩,λA D=>⟨rfl,Or.inr (Or.inr ⟨D.sp,rfl⟩),λC F=>⟨rfl,Kw (s₁:=A.2) false rfl rfl E D F⟩,trv⟩,trv⟩,λh3=>⟨rfl,⟨x.pre.speak 1,⟨(x.vs.two rfl).c0,(x.vs.two rfl).c1⟩,(x.vs.two rfl).lt⟩,λA D=>⟨rfl,Or.inr (Or.inr ⟨D.sp,rfl⟩),λC F=>⟨rfl,Kw (s₁:=A.2) B.2.1.6 h3 rfl E D F⟩,trv⟩,trv⟩⟩⟩)
theorem lr:Is (AP (Z8e false) 100 DS (E5 false)):=AQ (p:=∀A:SS×ES×VS,Fc false A.1 A.2.1 A.2.2->let g:=H0 A.2.2.1 A.2.2.2 0 0;let p:=A.2.1;rf (LA (IV false) (-1,A.1,(Ee true p.2 p.3 p.4 p.5 p.6 p.7 p.8),g))/\(-1=-1∨ -1=0∨ -1=1/\false=true)/\(∀D,D=((CS A.1.1 A.1.2 A.1.3 A.1.4 A.1.5 A.1.6 A.1.7 A.1.8 false false),(Ee (A.1.9||(A.1.10||true)) p.2 (true&&(A.1.9||A.1.10)||p.3) p.4 p.5 p.6 (A.1.9||p.7) (A.1.10||p.8)))->let d:=CS (-2) D.1.2 D.1.3 D.1.4 D.1.5 D.1.6 D.1.7 D.1.8 D.1.9 D.1.10;let z:=PU false;rf (LL z ((d,D.2,g),!D.1.2))/\Ho false d g d D.2 g !D.1.2/\∀C:AS×Bool,let c:=C.1.2;let y:=C.1.1;Ho false d g y c.1 c.2 C.2->let e:=oN (E5 false) 0;let j:=(6,Lf.n c.2.1);let k:=(7,Lf.n c.2.1);let l:=(8,Lf.i c.2.2);let m:=(9,Lf.n c.2.1);let q:=y;let a:=CS (-1) q.2 q.3 q.4 q.5 q.6 q.7 q.8 q.9 q.10;let b:=Ee c.1.1 q.1 c.1.5 c.1.6 c.1.5 c.1.6 false false;let h:=(C.2,a,c.1);let o:=(C.2,a,b);let r:=A.2.2;let t:=LX 0 e A o;let u:=LX 0 e A h;let a0:=!C.2;AF (C.2) (λZ=>let f:=H0 c.2.1 c.2.2 0 0;let s:=3 * (AM q.3+AM q.4)+(cnt c.1.3+cnt c.1.4);let v:=decide (CZ c.1.3+CZ c.1.4>0);let w:=LA (MV false) (y,c.1,f);AF (v) (λZ=>AF (v) (λZ=>rf w/\(Rr false y c.1 f/\(c.1.3=true∨c.1.4=true))/\(∀B:Bool×SS×ES,Fb false y c.1 f B.1 B.2.1 B.2.2->rf (LL z ((B.2.1,B.2.2,f),B.1))/\Ho false d g B.2.1 B.2.2 f B.1/\(3 * (AM B.2.1.3+AM B.2.1.4)+(cnt B.2.2.3+cnt B.2.2.4)).succ.le s)/\True) λZ=>AF (a0) (λZ=>Ez t [j,k,l,m]=LX 0 e A o/\(C.2=true->CL false A.1 r a b)/\(C.2=false->CM false A.1 r a b)) λZ=>Ez u [j,k,l,m]=LX 0 e A h/\(C.2=true->CL false A.1 r a c.1)/\(C.2=false->CM false A.1 r a c.1)) λZ=>AF (c.1.1) (λZ=>AF (a0) (λZ=>Ez t [j,k,l,m]=LX 0 e A o/\(C.2=true->CL false A.1 r a b)/\(C.2=false->CM false A.1 r a b)) λZ=>Ez u [j,k,l,m]=LX 0 e A h/\(C.2=true->CL false A.1 r a c.1)/\(C.2=false->CM false A.1 r a c.1)) λZ=>AF (c.1.1) (λZ=>rf w/\(Rr false y c.1 f/\(c.1.3=true∨c.1.4=true))/\(∀B:Bool×SS×ES,Fb false y c.1 f B.1 B.2.1 B.2.2->rf (LL z ((B.2.1,B.2.2,f),B.1))/\Ho false d g B.2.1 B.2.2 f B.1/\(3 * (AM B.2.1.3+AM B.2.1.4)+(cnt B.2.2.3+cnt B.2.2.4)).succ.le s)/\True) λZ=>AF (a0) (λZ=>Ez t [j,k,l,m]=LX 0 e A o/\(C.2=true->CL false A.1 r a b)/\(C.2=false->CM false A.1 r a b)) λZ=>Ez u [j,k,l,m]=LX 0 e A h/\(C.2=true->CL false A.1 r a c.1)/\(C.2=false->CM false A.1 r a c.1)) λZ=>AF (a0) (λZ=>Ez t [j,k,l,m]=LX 0 e A o/\(C.2=true->CL false A.1 r a b)/\(C.2=false->CM false A.1 r a b)) λZ=>Ez u [j,k,l,m]=LX 0 e A h/\(C.2=true->CL false A.1 r a c.1)/\(C.2=false->CM false A.1 r a c.1))/\True) ∅ λA hp=>by
 dsimp only;show⟨rfl,Or.inl rfl,λD h1=>⟨rfl,OG hp (congrArg (λq:SS×ES=>core q.1) h1) (congrArg (λq:SS×ES=>q.1.n0) h1) (congrArg (λq:SS×ES=>q.1.n1) h1) (congrArg Prod.snd h1) (AU hp.vs) rfl,λC n=>(AB (λh3=>(AB (λG=>(AB (λF=>⟨rfl,⟨Rs n (AU n.vs) h3,Wq (x:=C.1.2.1) G⟩,λB i=>⟨rfl,Rt n h3 i (AU n.vs),Ru n (Wq (x:=C.1.2.1) G) (AU n.vs) i⟩,trv⟩) λF=>(AB (λi=>⟨Aj h3 (BG i),λE=>Aj h3 (BG i),λE=>Aj h3 (BG i)⟩) λi=>⟨Aj G F,λE=>Aj G F,λE=>Aj h3 E⟩))) λG=>(AB (λF=>(AB (λi=>⟨Aj h3 (BG i),λE=>Aj h3 (BG i),λE=>Aj h3 (BG i)⟩) λi=>⟨(by rw[n.ve]<;>kernel_rfl),λE=>Pa n h3 (Kx (x:=C.1.2.1) G) (congrArg (λq:SS×ES=>core q.1) h1) (AU hp.vs) rfl rfl rfl rfl (n.one.same rfl rfl),λE=>Aj h3 E⟩)) λF=>(AB (λi=>⟨rfl,⟨Aj i F,Aj i F⟩,λB E=>⟨rfl,Aj i F,Aj i F⟩,trv⟩) λi=>(AB (λE=>⟨Aj h3 (BG E),λH=>Aj h3 (BG E),λH=>Aj h3 (BG E)⟩) λE=>⟨(by rw[n.ve]<;>kernel_rfl),λH=>Pa n h3 (Kx (x:=C.1.2.1) G) (congrArg (λq:SS×ES=>core q.1) h1) (AU hp.vs) rfl rfl rfl rfl (n.one.same rfl rfl),λH=>Aj h3 H⟩))))) λh3=>(AB (λG=>⟨(by rw[n.ve]<;>kernel_rfl),λF=>Aj F h3,λF=>eU n h3 (congrArg (λq:SS×ES=>core q.1) h1) (AU hp.vs) rfl rfl rfl rfl (n.one.un rfl rfl)⟩) λG=>⟨Aj (A3 G) h3,λF=>Aj (A3 G) h3,λF=>Aj (A3 G) h3⟩))⟩,trv⟩
theorem lu:Is (AP (Z8e true) 100 DS (E5 true)):=AQ (p:=∀A:SS×ES×VS,Fc true A.1 A.2.1 A.2.2->let l:=A.2.2;let s:=A.2.1;rf (LA (IV true) (-1,A.1,(Ee true s.2 s.3 s.4 s.5 s.6 s.7 s.8),l))/\(-1=-1∨ -1=0∨ -1=1/\true=true)/\(∀D:SS×ES,(let c0:=A.1.9||A.1.10;D=((CS A.1.1 A.1.2 A.1.3 A.1.4 A.1.5 A.1.6 A.1.7 A.1.8 false false),(Ee (A.1.9||(A.1.10||true)) s.2 (true&&c0||s.3) (true&&(true&&c0)||s.4) s.5 s.6 (A.1.9||s.7) (A.1.10||s.8))))->let d:=CS (-2) D.1.2 D.1.3 D.1.4 D.1.5 D.1.6 D.1.7 D.1.8 D.1.9 D.1.10;let b0:=PU true;rf (LL b0 ((d,D.2,l),!D.1.2))/\Ho true d l d D.2 l !D.1.2/\∀C:AS×Bool,let c:=C.1.2;let a0:=C.1.1;Ho true d l a0 c.1 c.2 C.2->let e:=oN (E5 true) 0;let f:=(10,Lf.n c.2.1);let g:=(11,Lf.n c.2.1);let h:=(12,Lf.i c.2.2);let j:=(13,Lf.n c.2.1);let m:=(6,Lf.n c.2.3);let o:=(7,Lf.n c.2.3);let p:=(8,Lf.i c.2.4);let q:=(9,Lf.n c.2.3);let t:=a0;let a:=CS (-1) t.2 t.3 t.4 t.5 t.6 t.7 t.8 t.9 t.10;let b:=Ee c.1.1 t.1 c.1.5 c.1.6 c.1.5 c.1.6 false false;let k:=(C.2,a,c.1);let r:=(C.2,a,b);let v:=LX 0 e A r;let w:=LX 0 e A k;let d0:=!C.2;AF (C.2) (λZ=>let u:=3 * (AM t.3+AM t.4)+(cnt c.1.3+cnt c.1.4);let y:=decide (CZ c.1.3+CZ c.1.4>0);let z:=LA (MV true) (a0,c.1,c.2);AF (y) (λZ=>AF (y) (λZ=>rf z/\(Rr true a0 c.1 c.2/\(c.1.3=true∨c.1.4=true))/\(∀B:Bool×SS×ES,Fb true a0 c.1 c.2 B.1 B.2.1 B.2.2->rf (LL b0 ((B.2.1,B.2.2,c.2),B.1))/\Ho true d l B.2.1 B.2.2 c.2 B.1/\(3 * (AM B.2.1.3+AM B.2.1.4)+(cnt B.2.2.3+cnt B.2.2.4)).succ.le u)/\True) λZ=>AF (d0) (λZ=>Ez v [m,o,p,q,f,g,h,j]=LX 0 e A r/\(C.2=true->CL true A.1 l a b)/\(C.2=false->CM true A.1 l a b)) λZ=>Ez w [m,o,p,q,f,g,h,j]=LX 0 e A k/\(C.2=true->CL true A.1 l a c.1)/\(C.2=false->CM true A.1 l a c.1)) λZ=>AF (c.1.1) (λZ=>AF (d0) (λZ=>Ez v [m,o,p,q,f,g,h,j]=LX 0 e A r/\(C.2=true->CL true A.1 l a b)/\(C.2=false->CM true A.1 l a b)) λZ=>Ez w [m,o,p,q,f,g,h,j]=LX 0 e A k/\(C.2=true->CL true A.1 l a c.1)/\(C.2=false->CM true A.1 l a c.1)) λZ=>AF (c.1.1) (λZ=>rf z/\(Rr true a0 c.1 c.2/\(c.1.3=true∨c.1.4=true))/\(∀B:Bool×SS×ES,Fb true a0 c.1 c.2 B.1 B.2.1 B.2.2->rf (LL b0 ((B.2.1,B.2.2,c.2),B.1))/\Ho true d l B.2.1 B.2.2 c.2 B.1/\(3 * (AM B.2.1.3+AM B.2.1.4)+(cnt B.2.2.3+cnt B.2.2.4)).succ.le u)/\True) λZ=>AF (d0) (λZ=>Ez v [m,o,p,q,f,g,h,j]=LX 0 e A r/\(C.2=true->CL true A.1 l a b)/\(C.2=false->CM true A.1 l a b)) λZ=>Ez w [m,o,p,q,f,g,h,j]=LX 0 e A k/\(C.2=true->CL true A.1 l a c.1)/\(C.2=false->CM true A.1 l a c.1)) λZ=>AF (d0) (λZ=>Ez v [m,o,p,q,f,g,h,j]=LX 0 e A r/\(C.2=true->CL true A.1 l a b)/\(C.2=false->CM true A.1 l a b)) λZ=>Ez w [m,o,p,q,f,g,h,j]=LX 0 e A k/\(C.2=true->CL true A.1 l a c.1)/\(C.2=false->CM true A.1 l a c.1))/\True) ∅ λA hp=>by
 dsimp only;show⟨rfl,Or.inl rfl,λD h1=>⟨rfl,OG hp (congrArg (λq:SS×ES=>core q.1) h1) (congrArg (λq:SS×ES=>q.1.n0) h1) (congrArg (λq:SS×ES=>q.1.n1) h1) (congrArg Prod.snd h1) rfl rfl,λC F=>(AB (λh3=>(AB (λG=>(AB (λE=>⟨rfl,⟨Rs F rfl h3,Wq (x:=C.1.2.1) G⟩,λB i=>⟨rfl,Rt F h3 i rfl,Ru F (Wq (x:=C.1.2.1) G) rfl i⟩,trv⟩) λE=>(AB (λi=>⟨Aj h3 (BG i),λn=>Aj h3 (BG i),λn=>Aj h3 (BG i)⟩) λi=>⟨Aj G E,λn=>Aj G E,λn=>Aj h3 n⟩))) λG=>(AB (λE=>(AB (λi=>⟨Aj h3 (BG i),λn=>Aj h3 (BG i),λn=>Aj h3 (BG i)⟩) λi=>⟨(by rw[F.ve]<;>kernel_rfl),λn=>Pa F h3 (Kx (x:=C.1.2.1) G) (congrArg (λq:SS×ES=>core q.1) h1) rfl rfl rfl rfl rfl (F.one.same rfl rfl),λn=>Aj h3 n⟩)) λE=>(AB (λi=>⟨rfl,⟨Aj i E,Aj i E⟩,λB n=>⟨rfl,Aj i E,Aj i E⟩,trv⟩) λi=>(AB (λn=>⟨Aj h3 (BG n),λH=>Aj h3 (BG n),λH=>Aj h3 (BG n)⟩) λn=>⟨(by rw[F.ve]<;>kernel_rfl),λH=>Pa F h3 (Kx (x:=C.1.2.1) G) (congrArg (λq:SS×ES=>core q.1) h1) rfl rfl rfl rfl rfl (F.one.same rfl rfl),λH=>Aj h3 H⟩))))) λh3=>(AB (λG=>⟨(by rw[F.ve]<;>kernel_rfl),λE=>Aj E h3,λE=>eU F h3 (congrArg (λq:SS×ES=>core q.1) h1) rfl rfl rfl rfl rfl (F.one.un rfl rfl)⟩) λG=>⟨Aj (A3 G) h3,λE=>Aj (A3 G) h3,λE=>Aj (A3 G) h3⟩))⟩,trv⟩
def tZ:Is (AP Z8p 90 KP Rv):=by
 show AQ (p:=∀B:Int×SS,(B.1=1/\HD B.2)->let w:=oN Rv 0;let J:=B.2.7;let d0:=AAO (List.drop (C4 B.2) J) (B.2.3,B.2.4);let K:=B.2.5;let k0:=B.2.6;let c:=CS B.2.1 false d0.fst d0.snd K k0 (List.take (C4 B.2) J) B.2.8.dropLast false false;AF (decide (B.1<1)) (λZ=>rf (LX 0 w B B.2)/\B.2=c) (λZ=>L1 B.2.8/\L1 B.2.8/\let l:=Int.ofNat B.2.8.length-B.1;let u:=B.2.7.getLastD BY;let c0:=BH B.2.8 none (some l);let a:=CS B.2.1 B.2.2 u.d B.2.4 K k0 B.2.7.dropLast c0 B.2.9 B.2.10;let b:=CS B.2.1 B.2.2 B.2.3 u.d K k0 B.2.7.dropLast c0 B.2.9 B.2.10;let f:=CS B.2.1 (decide (K=[])||(decide (k0=[])||false)) B.2.3 B.2.4 K k0 J c0 false false;let l0:=LX 0 w B f;AF (decide (Int.ofNat B.2.8.length-B.1=-1)) (λZ=>B.2.8≠[]/\L1 B.2.8/\L1 B.2.8/\L1 B.2.7/\let g:=B.2.8.getLastD BY;AF (decide (Int.ofNat B.2.7.length>g.v)) (λZ=>L1 B.2.7/\J≠[]/\(u.x=false->rf (LL C9 (a,B.1,g.v))/\EC a g.v a g.v/\∀A:SS×Int×Int,let e0:=A.2.2;EC a g.v A.1 e0->L1 A.1.7/\AF (decide (Int.ofNat A.1.7.length>e0)) (λZ=>L1 A.1.7/\A.1.7≠[]/\let y:=A.1.7.getLastD BY;(y.x=false->let m:=CS A.1.1 A.1.2 y.d A.1.4 A.1.5 A.1.6 A.1.7.dropLast A.1.8 A.1.9 A.1.10;rf (LL C9 (m,A.2.1,e0))/\EC a g.v m e0/\A.1.7.dropLast.length.succ.le A.1.7.length)/\(y.x=true->let n:=CS A.1.1 A.1.2 A.1.3 y.d A.1.5 A.1.6 A.1.7.dropLast A.1.8 A.1.9 A.1.10;rf (LL C9 (n,A.2.1,e0))/\EC a g.v n e0/\A.1.7.dropLast.length.succ.le A.1.7.length)) (λZ=>let h:=CS A.1.1 (decide (A.1.5=[])||(decide (A.1.6=[])||false)) A.1.3 A.1.4 A.1.5 A.1.6 A.1.7 A.1.8 false false;rf (LX 0 w B h)/\h=c))/\(u.x=true->rf (LL C9 (b,B.1,g.v))/\EC b g.v b g.v/\∀A:SS×Int×Int,let f0:=A.2.2;EC b g.v A.1 f0->L1 A.1.7/\AF (decide (Int.ofNat A.1.7.length>f0)) (λZ=>L1 A.1.7/\A.1.7≠[]/\let z:=A.1.7.getLastD BY;(z.x=false->let o:=CS A.1.1 A.1.2 z.d A.1.4 A.1.5 A.1.6 A.1.7.dropLast A.1.8 A.1.9 A.1.10;rf (LL C9 (o,A.2.1,f0))/\EC b g.v o f0/\A.1.7.dropLast.length.succ.le A.1.7.length)/\(z.x=true->let p:=CS A.1.1 A.1.2 A.1.3 z.d A.1.5 A.1.6 A.1.7.dropLast A.1.8 A.1.9 A.1.10;rf (LL C9 (p,A.2.1,f0))/\EC b g.v p f0/\A.1.7.dropLast.length.succ.le A.1.7.length)) (λZ=>let i:=CS A.1.1 (decide (A.1.5=[])||(decide (A.1.6=[])||false)) A.1.3 A.1.4 A.1.5 A.1.6 A.1.7 A.1.8 false false;rf (LX 0 w B i)/\i=c))) λZ=>rf l0/\f=c) (λZ=>(Int.ofNat B.2.8.length-B.1-0).NonNeg/\l.toNat.succ.le B.2.8.length/\L1 B.2.8/\L1 B.2.8/\L1 B.2.7/\let e:=B.2.8.getD l.toNat BY;AF (decide (Int.ofNat B.2.7.length>e.v)) (λZ=>L1 B.2.7/\J≠[]/\(u.x=false->rf (LL C9 (a,B.1,e.v))/\EC a e.v a e.v/\∀A:SS×Int×Int,let g0:=A.2.2;EC a e.v A.1 g0->L1 A.1.7/\AF (decide (Int.ofNat A.1.7.length>g0)) (λZ=>L1 A.1.7/\A.1.7≠[]/\let a0:=A.1.7.getLastD BY;(a0.x=false->let q:=CS A.1.1 A.1.2 a0.d A.1.4 A.1.5 A.1.6 A.1.7.dropLast A.1.8 A.1.9 A.1.10;rf (LL C9 (q,A.2.1,g0))/\EC a e.v q g0/\A.1.7.dropLast.length.succ.le A.1.7.length)/\(a0.x=true->let r:=CS A.1.1 A.1.2 A.1.3 a0.d A.1.5 A.1.6 A.1.7.dropLast A.1.8 A.1.9 A.1.10;rf (LL C9 (r,A.2.1,g0))/\EC a e.v r g0/\A.1.7.dropLast.length.succ.le A.1.7.length)) (λZ=>let j:=CS A.1.1 (decide (A.1.5=[])||(decide (A.1.6=[])||false)) A.1.3 A.1.4 A.1.5 A.1.6 A.1.7 A.1.8 false false;rf (LX 0 w B j)/\j=c))/\(u.x=true->rf (LL C9 (b,B.1,e.v))/\EC b e.v b e.v/\∀A:SS×Int×Int,let h0:=A.2.2;EC b e.v A.1 h0->L1 A.1.7/\AF (decide (Int.ofNat A.1.7.length>h0)) (λZ=>L1 A.1.7/\A.1.7≠[]/\let b0:=A.1.7.getLastD BY;(b0.x=false->let s:=CS A.1.1 A.1.2 b0.d A.1.4 A.1.5 A.1.6 A.1.7.dropLast A.1.8 A.1.9 A.1.10;rf (LL C9 (s,A.2.1,h0))/\EC b e.v s h0/\A.1.7.dropLast.length.succ.le A.1.7.length)/\(b0.x=true->let t:=CS A.1.1 A.1.2 A.1.3 b0.d A.1.5 A.1.6 A.1.7.dropLast A.1.8 A.1.9 A.1.10;rf (LL C9 (t,A.2.1,h0))/\EC b e.v t h0/\A.1.7.dropLast.length.succ.le A.1.7.length)) (λZ=>let k:=CS A.1.1 (decide (A.1.5=[])||(decide (A.1.6=[])||false)) A.1.3 A.1.4 A.1.5 A.1.6 A.1.7 A.1.8 false false;rf (LX 0 w B k)/\k=c))) λZ=>rf l0/\f=c))) ∅ ?_;intro B hp;have d:=hp.1;have F:=hp.2;have hm:=eV F d;have hk:=eW F d;have v:B.2.8≠[]:=F.ne;have N:=nD.mpr v;have L:0<=((B.2.8.length:Int)-B.1):=by omega
 have M:((B.2.8.length:Int)-B.1).toNat<B.2.8.length:=by omega
 have D:0<=(B.2.8.getD ((B.2.8.length:Int)-B.1).toNat BY).v:=by rw[show _=_ from hm];show F.lo
 have I:(B.2.8.getD ((B.2.8.length:Int)-B.1).toNat BY).v.toNat=C4 B.2:=congrArg Int.toNat hm;dsimp only;show(AB (λh1=>⟨rfl,absurd (AAL h1) (by omega)⟩) λh1=>⟨Be F.full.ms,Be F.full.ms,AB (λx=>⟨λh3=>Bq d v x,Bq d v x,Bq d v x,Bq d v x,AB (λh3=>⟨Bq d v x,λH=>Bq d v x,λH=>⟨rfl,Bq d v x,λA C=>⟨Bq d v x,AB (λE=>⟨Bq d v x,λG=>Bq d v x,λG=>⟨rfl,Bq d v x,Bq d v x⟩,λG=>⟨rfl,Bq d v x,Bq d v x⟩⟩) λE=>⟨rfl,Bq d v x⟩⟩⟩,λH=>⟨rfl,Bq d v x,λA C=>⟨Bq d v x,AB (λE=>⟨Bq d v x,λG=>Bq d v x,λG=>⟨rfl,Bq d v x,Bq d v x⟩,λG=>⟨rfl,Bq d v x,Bq d v x⟩⟩) λE=>⟨rfl,Bq d v x⟩⟩⟩⟩) λh3=>⟨rfl,Bq d v x⟩⟩) λx=>⟨L,M,Be F.full.ms,Be F.full.ms,Be F.full.tr,AB (λh3=>⟨Be F.full.tr,λH=>Uz D h3 H,λH=>⟨rfl,EC.first D (H2.s0 D h3 H:H2 _ _ (B.2.3,B.2.4) _ _).lo (EX (H2.s0 D h3 H:H2 _ _ (B.2.3,B.2.4) _ _).le F.full.tr),λA C=>⟨Be C.sh,AB (λE=>⟨Be C.sh,λG=>Uz C.lo E G,λG=>⟨rfl,C.next (H2.s0 C.lo E G) rfl rfl rfl rfl,Ky C.lo E⟩,λG=>⟨rfl,C.next (H2.s1 C.lo E G) rfl rfl rfl rfl,Ky C.lo E⟩⟩) λE=>⟨rfl,show _ from Rw C F ⟨rfl,rfl,rfl,hk⟩ hm (I▸H2.s0 D h3 H) E⟩⟩⟩,λH=>⟨rfl,EC.first D (H2.s1 D h3 H:H2 _ _ (B.2.3,B.2.4) _ _).lo (EX (H2.s1 D h3 H:H2 _ _ (B.2.3,B.2.4) _ _).le F.full.tr),λA C=>⟨Be C.sh,AB (λE=>⟨Be C.sh,λG=>Uz C.lo E G,λG=>⟨rfl,C.next (H2.s0 C.lo E G) rfl rfl rfl rfl,Ky C.lo E⟩,λG=>⟨rfl,C.next (H2.s1 C.lo E G) rfl rfl rfl rfl,Ky C.lo E⟩⟩) λE=>⟨rfl,show _ from Rw C F ⟨rfl,rfl,rfl,hk⟩ hm (I▸H2.s1 D h3 H) E⟩⟩⟩⟩) λh3=>⟨rfl,Ws (s₀:=CS B.2.1 B.2.2 B.2.3 B.2.4 B.2.5 B.2.6 B.2.7 (BH B.2.8 none (some ((B.2.8.length:Int)-B.1))) B.2.9 B.2.10) F ⟨rfl,rfl,rfl,hk⟩ hm (.refl F.le) (.first D (I▸F.le) F.full.tr) h3⟩⟩⟩)
abbrev hJ (C):=(∀B:PS×AS,((Af B.2.1/\B.2.1.7.length<890)/\U0 B.1)->B.1.1.succ.le 5/\(let b:=B.1.2;let l:=oN (Gl C) 0;let n:=B.1.1;let o:=B.2.1;let q:=B.1.10;let r:=B.1.3;let s:=B.1.4;let t:=B.1.5;let u:=B.1.6;let v:=B.1.7;let w:=B.1.8;let y:=B.1.9;(n=0->let m:=Ef 0 0 r s t u v w y q;rf (LX 2 l B (true,m,o))/\m=B.1/\(true,o)=Fq n b o)/\let g:=o;let a:=CS (-2) g.2 g.3 g.4 g.5 g.6 g.7 g.8 g.9 g.10;let p:=(b,a);(n=1->rf (LA (Ai false Op.le) p)/\E2 a/\(∀A,A=AJ false (cut Op.le g.3 b) a->let c:=CS (-1) A.2.2 A.2.3 A.2.4 A.2.5 A.2.6 A.2.7 A.2.8 A.2.9 A.2.10;let h:=Ef 1 b r s t u v w y q;rf (LX 2 l B (A.1,h,c))/\h=B.1/\(A.1,c)=Fq n b o)/\True)/\(n=2->rf (LA (Ai true Op.le) p)/\E2 a/\(∀A,A=AJ true (cut Op.le g.4 b) a->let d:=CS (-1) A.2.2 A.2.3 A.2.4 A.2.5 A.2.6 A.2.7 A.2.8 A.2.9 A.2.10;let i:=Ef 2 b r s t u v w y q;rf (LX 2 l B (A.1,i,d))/\i=B.1/\(A.1,d)=Fq n b o)/\True)/\(n=3->rf (LA (Ai false Op.ge) p)/\E2 a/\(∀A,A=AJ false (cut Op.ge g.3 b) a->let e:=CS (-1) A.2.2 A.2.3 A.2.4 A.2.5 A.2.6 A.2.7 A.2.8 A.2.9 A.2.10;let j:=Ef 3 b r s t u v w y q;rf (LX 2 l B (A.1,j,e))/\j=B.1/\(A.1,e)=Fq n b o)/\True)/\(n=4->rf (LA (Ai true Op.ge) p)/\E2 a/\(∀A,A=AJ true (cut Op.ge g.4 b) a->let f:=CS (-1) A.2.2 A.2.3 A.2.4 A.2.5 A.2.6 A.2.7 A.2.8 A.2.9 A.2.10;let k:=Ef 4 b r s t u v w y q;rf (LX 2 l B (A.1,k,f))/\k=B.1/\(A.1,f)=Fq n b o)/\True)/\True):Prop)
def Y7:hJ false=AP Z8 60 Cd (Gl false):=∅
def Y8:hJ true=AP Z8 60 Cd (Gl true):=∅
def SI:Is (AP Z8 60 Cd (Gl false))/\Is (AP Z8 60 Cd (Gl true)):=by
 show⟨AQ Y7 ?_,AQ Y8 ?_⟩<;>
 (intro B hp
  have a:=hp.1.1;have c:=hp.1.2;have hg:=hp.2;dsimp only;show⟨hg.lt,λh1=>⟨rfl,Rx h1 (hg.z h1),xr h1⟩,λh1=>⟨rfl,⟨a.g0,a.g1,a.tr,a.ms⟩,λA b=>⟨rfl,Rx h1 rfl,Wt (m:=0) h1 b⟩,trv⟩,λh1=>⟨rfl,⟨a.g0,a.g1,a.tr,a.ms⟩,λA b=>⟨rfl,Rx h1 rfl,Wt (m:=1) h1 b⟩,trv⟩,λh1=>⟨rfl,⟨a.g0,a.g1,a.tr,a.ms⟩,λA b=>⟨rfl,Rx h1 rfl,Wt (m:=2) h1 b⟩,trv⟩,λh1=>⟨rfl,⟨a.g0,a.g1,a.tr,a.ms⟩,λA b=>⟨rfl,Rx h1 rfl,Wt (m:=3) h1 b⟩,trv⟩,trv⟩)
theorem lw:Is (AP Z8 60 Cd (Gl false)):=SI.1
theorem lz:Is (AP Z8 60 Cd (Gl true)):=SI.2
theorem hU:Is (AP (Z10 false) 110 Du (IW false)):=AQ (p:=∀B:Int×QS,I6 B.1 B.2.1 B.2.2.1->L1 B.2.1.9/\let f:=B.2.2;rf (LA Rv (Int.ofNat B.2.1.9.length-B.1,f.1))/\(Int.ofNat B.2.1.9.length-B.1=1/\HD f.1)/\(∀D:SS,(let h:=AAO (List.drop (C4 f.1) f.1.7) (f.1.3,f.1.4);D=(CS f.1.1 false (h.fst) (h.snd) f.1.5 f.1.6 (List.take (C4 f.1) f.1.7) f.1.8.dropLast false false))->L1 B.2.1.9/\let j:=B.2.1;let a:=((((Ef j.1 j.2 j.3 j.4 j.5 j.6 j.7 j.8 (BH j.9 none (some B.1)) j.10),D,f.2.1,(H0 f.2.2.1 f.2.2.2 0 0)),B.1),0,[]);let o:=Pe false;rf (LW o false a)/\Hp a a/\∀A:(QS×Int)×Nat×List El,Hp a A->Ut (let c:=A.1.1;let l:=H0 c.2.2.2.1 c.2.2.2.2 0 0;let r:=A.2.1;(r<A.1.1.1.10.length->let d:=((c.1,c.2.1,c.2.2.1,l),A.1.2);let k:=A.1.1.1.10.length-A.2.1.succ;let m:=A.1.1.1.10.length-r;AF (decide ((A.1.1.1.10.getD r BY).v<=A.1.2)) (λZ=>L1 A.2.2/\let g:=(d,A.2.1.succ,A.2.2++[(Ed false [] ((c.1.10.getD r BY).v) 0)]);rf (LW o true g)/\Hp a g/\k.succ.le m) λZ=>let p:=(d,A.2.1.succ,A.2.2);rf (LW o true p)/\Hp a p/\k.succ.le m)/\(A.1.1.1.10.length<=r->let e:=Ef c.1.1 c.1.2 c.1.3 c.1.4 c.1.5 c.1.6 c.1.7 c.1.8 c.1.9 A.2.2;rf (LA (Gl false) (e,c.2.1,c.2.2.1,l))/\((Af c.2.1/\A.1.1.2.1.7.length.succ.le 890)/\U0 e)/\(∀C:Bool×PS×SS,(C.2.1=e/\(C.1,C.2.2)=Fq c.1.1 c.1.2 c.2.1)->(let q:=(C.1,C.2.1,C.2.2);let s:=oN (IW false) 0;Ez (LX 0 s B q) [(3,Lf.b c.2.2.1.7),(4,Lf.b c.2.2.1.8),(5,Lf.b c.2.2.1.3),(6,Lf.b c.2.2.1.4),(9,Lf.n c.2.2.2.1),(10,Lf.n c.2.2.2.1),(11,Lf.i c.2.2.2.2),(12,Lf.n c.2.2.2.1),(20,Lf.b c.2.2.1.5),(21,Lf.b c.2.2.1.6),(24,Lf.i c.2.2.1.2),(25,Lf.v (Value.bool c.2.2.1.1))]=LX 0 s B q)/\Dl B.2.1 f.1 C.1 C.2.1 C.2.2)/\True)))/\True) ∅ λB hp=>by
 dsimp only;show⟨Be hp.pa,rfl,⟨Ry hp,hp.pop⟩,λD h1=>⟨Be hp.pa,rfl,⟨rfl,rfl,.refl _,rfl,QJ _,QQ _⟩,λA b=>(Dd ⟨λh3=>(AB (λi=>⟨Wu hp b rfl,rfl,b.turn h3 (by rw[JT];show QJ _) rfl ⟨b.ve.es,b.ve.k0,b.ve.c0,rfl,rfl⟩,AAM _ _ h3⟩) λi=>⟨rfl,b.turn h3 (Nat.le_succ _) rfl ⟨b.ve.es,b.ve.k0,b.ve.c0,rfl,rfl⟩,AAM _ _ h3⟩),λh3=>⟨rfl,⟨⟨(Fs hp b D h1 rfl)▸hp.full,(Fs hp b D h1 rfl)▸hp.tr⟩,eh hp b rfl⟩,λC i=>⟨(by rw[show A.1.1.2.2.1=B.2.2.2.1 from b.ve.es,show A.1.1.2.2.2.1=B.2.2.2.2.1 from b.ve.k0,show A.1.1.2.2.2.2=B.2.2.2.2.2 from b.ve.c0]<;>kernel_rfl),ek hp b D h1 rfl rfl i⟩,trv⟩⟩)⟩,trv⟩
theorem hW:Is (AP (Z10 true) 110 Du (IW true)):=AQ (p:=∀B:Int×QS,I6 B.1 B.2.1 B.2.2.1->L1 B.2.1.9/\let f:=B.2.2;rf (LA Rv (Int.ofNat B.2.1.9.length-B.1,f.1))/\(Int.ofNat B.2.1.9.length-B.1=1/\HD f.1)/\(∀D:SS,(let h:=AAO (List.drop (C4 f.1) f.1.7) (f.1.3,f.1.4);D=(CS f.1.1 false (h.fst) (h.snd) f.1.5 f.1.6 (List.take (C4 f.1) f.1.7) f.1.8.dropLast false false))->L1 B.2.1.9/\let j:=B.2.1;let a:=((((Ef j.1 j.2 j.3 j.4 j.5 j.6 j.7 j.8 (BH j.9 none (some B.1)) j.10),D,f.2.1,f.2.2),B.1),0,[]);let m:=Pe true;rf (LW m false a)/\Hp a a/\∀A:(QS×Int)×Nat×List El,Hp a A->Ut (let c:=A.1.1;let q:=A.2.1;(q<A.1.1.1.10.length->let g:=((c.1,c.2.1,c.2.2.1,c.2.2.2),A.1.2);let k:=A.1.1.1.10.length-A.2.1.succ;let l:=A.1.1.1.10.length-q;AF (decide ((A.1.1.1.10.getD q BY).v<=A.1.2)) (λZ=>L1 A.2.2/\let e:=(g,A.2.1.succ,A.2.2++[(Ed false [] ((c.1.10.getD q BY).v) 0)]);rf (LW m true e)/\Hp a e/\k.succ.le l) λZ=>let o:=(g,A.2.1.succ,A.2.2);rf (LW m true o)/\Hp a o/\k.succ.le l)/\(A.1.1.1.10.length<=q->let d:=Ef c.1.1 c.1.2 c.1.3 c.1.4 c.1.5 c.1.6 c.1.7 c.1.8 c.1.9 A.2.2;rf (LA (Gl true) (d,c.2.1,c.2.2.1,c.2.2.2))/\((Af c.2.1/\A.1.1.2.1.7.length.succ.le 890)/\U0 d)/\(∀C:Bool×PS×SS,(C.2.1=d/\(C.1,C.2.2)=Fq c.1.1 c.1.2 c.2.1)->(let p:=(C.1,C.2.1,C.2.2);let r:=oN (IW true) 0;Ez (LX 0 r B p) [(3,Lf.b c.2.2.1.7),(4,Lf.b c.2.2.1.8),(5,Lf.b c.2.2.1.3),(6,Lf.b c.2.2.1.4),(9,Lf.n c.2.2.2.3),(10,Lf.n c.2.2.2.3),(11,Lf.i c.2.2.2.4),(12,Lf.n c.2.2.2.3),(13,Lf.n c.2.2.2.1),(14,Lf.n c.2.2.2.1),(15,Lf.i c.2.2.2.2),(16,Lf.n c.2.2.2.1),(24,Lf.b c.2.2.1.5),(25,Lf.b c.2.2.1.6),(30,Lf.i c.2.2.1.2),(31,Lf.v (Value.bool c.2.2.1.1))]=LX 0 r B p)/\Dl B.2.1 f.1 C.1 C.2.1 C.2.2)/\True)))/\True) ∅ λB hp=>by
 dsimp only;show⟨Be hp.pa,rfl,⟨Ry hp,hp.pop⟩,λD h1=>⟨Be hp.pa,rfl,⟨rfl,rfl,.refl _,rfl,QJ _,QQ _⟩,λA b=>(Dd ⟨λh3=>(AB (λi=>⟨Wu hp b rfl,rfl,b.turn h3 (by rw[JT];show QJ _) rfl ⟨b.ve.es,b.ve.k0,b.ve.c0,b.ve.k1,b.ve.c1⟩,AAM _ _ h3⟩) λi=>⟨rfl,b.turn h3 (Nat.le_succ _) rfl ⟨b.ve.es,b.ve.k0,b.ve.c0,b.ve.k1,b.ve.c1⟩,AAM _ _ h3⟩),λh3=>⟨rfl,⟨⟨(Fs hp b D h1 rfl)▸hp.full,(Fs hp b D h1 rfl)▸hp.tr⟩,eh hp b rfl⟩,λC i=>⟨(by rw[show A.1.1.2.2.1=B.2.2.2.1 from b.ve.es,show A.1.1.2.2.2.1=B.2.2.2.2.1 from b.ve.k0,show A.1.1.2.2.2.2=B.2.2.2.2.2 from b.ve.c0,show A.1.1.2.2.2.3=B.2.2.2.2.3 from b.ve.k1,show A.1.1.2.2.2.4=B.2.2.2.2.4 from b.ve.c1]<;>kernel_rfl),ek hp b D h1 rfl rfl i⟩,trv⟩⟩)⟩,trv⟩
theorem hY:Is (AP (Z11 false) 130 DG (GU false)):=AQ (p:=∀A:PS×AS,HE A.1 A.2.1->let g:=(A.1,A.2.1,A.2.2.1,(H0 A.2.2.2.1 A.2.2.2.2 0 0));let o:=MX false;rf (LW o false g)/\Cw g g/\∀B:PS×AS,Cw g B->Ut (L1 B.1.9/\let f:=B.2.2;let k:=oN (GU false) 0;let m:=(25,Lf.v (Value.bool f.1.1));let t:=B.2.1;let u:=(10,Lf.n f.2.1);let w:=(11,Lf.i f.2.2);let y:=(12,Lf.n f.2.1);let z:=(20,Lf.b f.1.5);let a0:=(21,Lf.b f.1.6);let b0:=(24,Lf.i f.1.2);let c0:=(3,Lf.b f.1.7);let d0:=(4,Lf.b f.1.8);let e0:=(5,Lf.b f.1.3);let f0:=(6,Lf.b f.1.4);let g0:=(9,Lf.n f.2.1);AF (decide (Int.ofNat B.1.9.length>0)) (λZ=>L1 B.1.9/\B.1.9≠[]/\let h:=H0 f.2.1 f.2.2 0 0;let j:=B.1.9.getLastD BY;let l:=LA (IW false) (Int.ofNat B.1.9.length-1,B.1,t,f.1,h);let h0:=Int.ofNat B.1.9.length-1;(j.x=false->L1 B.1.9/\rf l/\I6 h0 B.1 t/\(∀C:Bool×PS×SS,Dl B.1 t C.1 C.2.1 C.2.2->L1 C.2.1.9/\L1 C.2.1.10/\let p:=C.2.1;let a:=Ef p.1 p.2 p.3 p.4 p.5 p.6 p.7 p.8 p.9 (p.10++[(Ed false [] (Int.ofNat p.9.length) 0)]);let r:=C.2.2;let d:=CS (-2) r.2 r.3 r.4 r.5 r.6 r.7 r.8 r.9 r.10;AF (C.1) (λZ=>L1 C.2.1.9/\rf (LA (Ai false Op.ge) (j.v+1,d))/\E2 d/\(∀D,D=AJ false (cut Op.ge (d.dom false) (j.v+1)) d->AF (D.1) (λZ=>(let n0:=(true,a,D.2);Ez (LX 0 k A n0) [c0,d0,e0,f0,g0,u,w,y,z,a0,b0,m]=LX 0 k A n0)/\E7 A.1 A.2.1 true a D.2) λZ=>let E:=(a,D.2,f.1,h);rf (LW o true E)/\Cw g E/\C.2.1.9.length.succ.le B.1.9.length)/\True) λZ=>let k0:=(a,d,f.1,h);rf (LW o true k0)/\Cw g k0/\C.2.1.9.length.succ.le B.1.9.length)/\True)/\(j.x=true->L1 B.1.9/\rf l/\I6 h0 B.1 t/\(∀C:Bool×PS×SS,Dl B.1 t C.1 C.2.1 C.2.2->L1 C.2.1.9/\L1 C.2.1.10/\let q:=C.2.1;let c:=Ef q.1 q.2 q.3 q.4 q.5 q.6 q.7 q.8 q.9 (q.10++[(Ed false [] (Int.ofNat q.9.length) 0)]);let s:=C.2.2;let e:=CS (-2) s.2 s.3 s.4 s.5 s.6 s.7 s.8 s.9 s.10;AF (C.1) (λZ=>L1 C.2.1.9/\rf (LA (Ai true Op.ge) (j.v+1,e))/\E2 e/\(∀D,D=AJ true (cut Op.ge (e.dom true) (j.v+1)) e->AF (D.1) (λZ=>(let a1:=(true,c,D.2);Ez (LX 0 k A a1) [c0,d0,e0,f0,g0,u,w,y,z,a0,b0,m]=LX 0 k A a1)/\E7 A.1 A.2.1 true c D.2) λZ=>let F:=(c,D.2,f.1,h);rf (LW o true F)/\Cw g F/\C.2.1.9.length.succ.le B.1.9.length)/\True) λZ=>let l0:=(c,e,f.1,h);rf (LW o true l0)/\Cw g l0/\C.2.1.9.length.succ.le B.1.9.length)/\True)) λZ=>(let m0:=(false,B.1,t);Ez (LX 0 k A m0) [c0,d0,e0,f0,g0,u,w,y,z,a0,b0,m]=LX 0 k A m0)/\E7 A.1 A.2.1 false B.1 t)) ∅ λA hp=>by
 dsimp only;show⟨rfl,Cw.first (p:=(A.1,A.2.1,A.2.2.1,H0 A.2.2.2.1 A.2.2.2.2 0 0)) hp,λB h1=>(Dd ⟨Be h1.st.len,AB (λi=>⟨Be h1.st.len,λh3=>Ph i h3,λh3=>⟨Be h1.st.len,rfl,h1.bpre i,λC b=>⟨h1.paQ b,h1.rfQ b,AB (λn=>⟨h1.paQ b,rfl,h1.ok i b,λD x=>(AB (λv=>⟨(by rw[show B.2.2.1=A.2.2.1 from h1.ve.es,show B.2.2.2.1=A.2.2.2.1 from h1.ve.k0,show B.2.2.2.2=A.2.2.2.2 from h1.ve.c0]<;>kernel_rfl),h1.done i b (h1.cutt i b n (z:=D) false h3 x) v⟩) λv=>⟨rfl,h1.backB i b (h1.cutt i b n (z:=D) false h3 x) v ⟨h1.ve.es,h1.ve.k0,h1.ve.c0,rfl,rfl⟩,h1.meas i b⟩),trv⟩) λn=>⟨rfl,h1.backA i b n ⟨h1.ve.es,h1.ve.k0,h1.ve.c0,rfl,rfl⟩,h1.meas i b⟩⟩,trv⟩,λh3=>⟨Be h1.st.len,rfl,h1.bpre i,λC b=>⟨h1.paQ b,h1.rfQ b,AB (λn=>⟨h1.paQ b,rfl,h1.ok i b,λD x=>(AB (λv=>⟨(by rw[show B.2.2.1=A.2.2.1 from h1.ve.es,show B.2.2.2.1=A.2.2.2.1 from h1.ve.k0,show B.2.2.2.2=A.2.2.2.2 from h1.ve.c0]<;>kernel_rfl),h1.done i b (h1.cutt i b n (z:=D) true h3 x) v⟩) λv=>⟨rfl,h1.backB i b (h1.cutt i b n (z:=D) true h3 x) v ⟨h1.ve.es,h1.ve.k0,h1.ve.c0,rfl,rfl⟩,h1.meas i b⟩),trv⟩) λn=>⟨rfl,h1.backA i b n ⟨h1.ve.es,h1.ve.k0,h1.ve.c0,rfl,rfl⟩,h1.meas i b⟩⟩,trv⟩⟩) λi=>⟨(by rw[show B.2.2.1=A.2.2.1 from h1.ve.es,show B.2.2.2.1=A.2.2.2.1 from h1.ve.k0,show B.2.2.2.2=A.2.2.2.2 from h1.ve.c0]<;>kernel_rfl),h1.over i⟩⟩)⟩
theorem hZ:Is (AP (Z11 true) 130 DG (GU true)):=AQ (p:=∀A:PS×AS,HE A.1 A.2.1->let g:=(A.1,A.2.1,A.2.2.1,A.2.2.2);let p:=MX true;rf (LW p false g)/\Cw g g/\∀B:PS×AS,Cw g B->Ut (L1 B.1.9/\let f:=B.2.2;let j:=oN (GU true) 0;let l:=(31,Lf.v (Value.bool f.1.1));let s:=B.2.1;let t:=(10,Lf.n f.2.3);let u:=(11,Lf.i f.2.4);let w:=(12,Lf.n f.2.3);let y:=(13,Lf.n f.2.1);let z:=(14,Lf.n f.2.1);let a0:=(15,Lf.i f.2.2);let b0:=(16,Lf.n f.2.1);let c0:=(24,Lf.b f.1.5);let d0:=(25,Lf.b f.1.6);let e0:=(30,Lf.i f.1.2);let f0:=(3,Lf.b f.1.7);let g0:=(4,Lf.b f.1.8);let h0:=(5,Lf.b f.1.3);let E:=(6,Lf.b f.1.4);let F:=(9,Lf.n f.2.3);AF (decide (Int.ofNat B.1.9.length>0)) (λZ=>L1 B.1.9/\B.1.9≠[]/\let h:=B.1.9.getLastD BY;let k:=LA (IW true) (Int.ofNat B.1.9.length-1,B.1,s,f.1,f.2);let k0:=Int.ofNat B.1.9.length-1;(h.x=false->L1 B.1.9/\rf k/\I6 k0 B.1 s/\(∀C:Bool×PS×SS,Dl B.1 s C.1 C.2.1 C.2.2->L1 C.2.1.9/\L1 C.2.1.10/\let m:=C.2.1;let a:=Ef m.1 m.2 m.3 m.4 m.5 m.6 m.7 m.8 m.9 (m.10++[(Ed false [] (Int.ofNat m.9.length) 0)]);let q:=C.2.2;let d:=CS (-2) q.2 q.3 q.4 q.5 q.6 q.7 q.8 q.9 q.10;AF (C.1) (λZ=>L1 C.2.1.9/\rf (LA (Ai false Op.ge) (h.v+1,d))/\E2 d/\(∀D,D=AJ false (cut Op.ge (d.dom false) (h.v+1)) d->AF (D.1) (λZ=>(let c1:=(true,a,D.2);Ez (LX 0 j A c1) [f0,g0,h0,E,F,t,u,w,y,z,a0,b0,c0,d0,e0,l]=LX 0 j A c1)/\E7 A.1 A.2.1 true a D.2) λZ=>let l0:=(a,D.2,f.1,f.2);rf (LW p true l0)/\Cw g l0/\C.2.1.9.length.succ.le B.1.9.length)/\True) λZ=>let n0:=(a,d,f.1,f.2);rf (LW p true n0)/\Cw g n0/\C.2.1.9.length.succ.le B.1.9.length)/\True)/\(h.x=true->L1 B.1.9/\rf k/\I6 k0 B.1 s/\(∀C:Bool×PS×SS,Dl B.1 s C.1 C.2.1 C.2.2->L1 C.2.1.9/\L1 C.2.1.10/\let o:=C.2.1;let c:=Ef o.1 o.2 o.3 o.4 o.5 o.6 o.7 o.8 o.9 (o.10++[(Ed false [] (Int.ofNat o.9.length) 0)]);let r:=C.2.2;let e:=CS (-2) r.2 r.3 r.4 r.5 r.6 r.7 r.8 r.9 r.10;AF (C.1) (λZ=>L1 C.2.1.9/\rf (LA (Ai true Op.ge) (h.v+1,e))/\E2 e/\(∀D,D=AJ true (cut Op.ge (e.dom true) (h.v+1)) e->AF (D.1) (λZ=>(let d1:=(true,c,D.2);Ez (LX 0 j A d1) [f0,g0,h0,E,F,t,u,w,y,z,a0,b0,c0,d0,e0,l]=LX 0 j A d1)/\E7 A.1 A.2.1 true c D.2) λZ=>let m0:=(c,D.2,f.1,f.2);rf (LW p true m0)/\Cw g m0/\C.2.1.9.length.succ.le B.1.9.length)/\True) λZ=>let a1:=(c,e,f.1,f.2);rf (LW p true a1)/\Cw g a1/\C.2.1.9.length.succ.le B.1.9.length)/\True)) λZ=>(let b1:=(false,B.1,s);Ez (LX 0 j A b1) [f0,g0,h0,E,F,t,u,w,y,z,a0,b0,c0,d0,e0,l]=LX 0 j A b1)/\E7 A.1 A.2.1 false B.1 s)) ∅ λA hp=>by
 dsimp only;show⟨rfl,Cw.first (p:=(A.1,A.2.1,A.2.2.1,A.2.2.2)) hp,λB h1=>(Dd ⟨Be h1.st.len,AB (λi=>⟨Be h1.st.len,λh3=>Ph i h3,λh3=>⟨Be h1.st.len,rfl,h1.bpre i,λC b=>⟨h1.paQ b,h1.rfQ b,AB (λn=>⟨h1.paQ b,rfl,h1.ok i b,λD x=>(AB (λv=>⟨(by rw[show B.2.2.1=A.2.2.1 from h1.ve.es,show B.2.2.2.1=A.2.2.2.1 from h1.ve.k0,show B.2.2.2.2=A.2.2.2.2 from h1.ve.c0,show B.2.2.2.3=A.2.2.2.3 from h1.ve.k1,show B.2.2.2.4=A.2.2.2.4 from h1.ve.c1]<;>kernel_rfl),h1.done i b (h1.cutt i b n (z:=D) false h3 x) v⟩) λv=>⟨rfl,h1.backB i b (h1.cutt i b n (z:=D) false h3 x) v ⟨h1.ve.es,h1.ve.k0,h1.ve.c0,h1.ve.k1,h1.ve.c1⟩,h1.meas i b⟩),trv⟩) λn=>⟨rfl,h1.backA i b n ⟨h1.ve.es,h1.ve.k0,h1.ve.c0,h1.ve.k1,h1.ve.c1⟩,h1.meas i b⟩⟩,trv⟩,λh3=>⟨Be h1.st.len,rfl,h1.bpre i,λC b=>⟨h1.paQ b,h1.rfQ b,AB (λn=>⟨h1.paQ b,rfl,h1.ok i b,λD x=>(AB (λv=>⟨(by rw[show B.2.2.1=A.2.2.1 from h1.ve.es,show B.2.2.2.1=A.2.2.2.1 from h1.ve.k0,show B.2.2.2.2=A.2.2.2.2 from h1.ve.c0,show B.2.2.2.3=A.2.2.2.3 from h1.ve.k1,show B.2.2.2.4=A.2.2.2.4 from h1.ve.c1]<;>kernel_rfl),h1.done i b (h1.cutt i b n (z:=D) true h3 x) v⟩) λv=>⟨rfl,h1.backB i b (h1.cutt i b n (z:=D) true h3 x) v ⟨h1.ve.es,h1.ve.k0,h1.ve.c0,h1.ve.k1,h1.ve.c1⟩,h1.meas i b⟩),trv⟩) λn=>⟨rfl,h1.backA i b n ⟨h1.ve.es,h1.ve.k0,h1.ve.c0,h1.ve.k1,h1.ve.c1⟩,h1.meas i b⟩⟩,trv⟩⟩) λi=>⟨(by rw[show B.2.2.1=A.2.2.1 from h1.ve.es,show B.2.2.2.1=A.2.2.2.1 from h1.ve.k0,show B.2.2.2.2=A.2.2.2.2 from h1.ve.c0,show B.2.2.2.3=A.2.2.2.3 from h1.ve.k1,show B.2.2.2.4=A.2.2.2.4 from h1.ve.c1]<;>kernel_rfl),h1.over i⟩⟩)⟩
theorem mA:Is (AP Z8 39 Ey (Df false)):=AQ (p:=∀A:Int×SS,(E2 A.2/\cut Op.le A.2.3 A.1≠[])->let b:=A.2.3;rf (LA (E0 upTo) (b,A.1))/\(List.length b).le 2/\(∀B:Unit,True->AF (decide (upTo b A.1=[])) (λZ=>False) λZ=>let c:=oN (Df false) 0;let d:=cut Op.le b A.1;AF (decide (upTo b A.1=b)) (λZ=>rf (LX 0 c A (true,A.2))/\(true,A.2)=AJ false d A.2) λZ=>L1 A.2.7/\let a:=(true,(CS A.2.1 A.2.2 (upTo b A.1) A.2.4 A.2.5 A.2.6 (A.2.7++[(Ed false b 0 0)]) A.2.8 true A.2.10));rf (LX 0 c A a)/\a=AJ false d A.2)/\True) ∅ λA hp=>by
 dsimp only;show⟨rfl,Bh hp.1.g0,λB h1=>(AB (λf=>absurd (AAL f) hp.2) λf=>(AB (λh3=>⟨rfl,(D9 (x:=false) (s:=A.2) (nd:=cut .le A.2.3 A.1) f h3).symm⟩) λh3=>⟨Be hp.1.tr,rfl,(EA (x:=false) (s:=A.2) (nd:=cut .le A.2.3 A.1) f h3).symm⟩)),trv⟩
theorem mB:Is (AP Z8 39 Ey (Df true)):=AQ (p:=∀A:Int×SS,(E2 A.2/\cut Op.le A.2.4 A.1≠[])->let b:=A.2.4;rf (LA (E0 upTo) (b,A.1))/\(List.length b).le 2/\(∀B:Unit,True->AF (decide (upTo b A.1=[])) (λZ=>False) λZ=>let c:=oN (Df true) 0;let d:=cut Op.le b A.1;AF (decide (upTo b A.1=b)) (λZ=>rf (LX 0 c A (true,A.2))/\(true,A.2)=AJ true d A.2) λZ=>L1 A.2.7/\let a:=(true,(CS A.2.1 A.2.2 A.2.3 (upTo b A.1) A.2.5 A.2.6 (A.2.7++[(Ed true b 0 0)]) A.2.8 A.2.9 true));rf (LX 0 c A a)/\a=AJ true d A.2)/\True) ∅ λA hp=>by
 dsimp only;show⟨rfl,Bh hp.1.g1,λB h1=>(AB (λf=>absurd (AAL f) hp.2) λf=>(AB (λh3=>⟨rfl,(D9 (x:=true) (s:=A.2) (nd:=cut .le A.2.4 A.1) f h3).symm⟩) λh3=>⟨Be hp.1.tr,rfl,(EA (x:=true) (s:=A.2) (nd:=cut .le A.2.4 A.1) f h3).symm⟩)),trv⟩
theorem td:Is (AP ua 145 Fa (EU false)):=AQ (p:=∀A:PS×AS,HE A.1 A.2.1->let c:=A.2.1;let e:=oN (EU false) 0;let f:=A.2.2;let d:=H0 f.2.1 f.2.2 0 0;AF (A.1.4) (λZ=>let b:=Ef A.1.1 A.1.2 A.1.3 false A.1.5 A.1.6 A.1.7 A.1.8 A.1.9 A.1.10;rf (LA (GU false) (b,c,f.1,d))/\HE b c/\(∀B:Bool×PS×SS,E7 b c B.1 B.2.1 B.2.2->rf (LX 0 e A (B.1,B.2.1,B.2.2))/\ED A.1 c B.1 B.2.1 B.2.2)/\True) λZ=>let a:=Ef A.1.1 A.1.2 A.1.3 A.1.4 A.1.5 (A.1.6+1) A.1.7 (A.1.8+1) A.1.9 A.1.10;rf (LA (GU false) (a,c,f.1,d))/\HE a c/\(∀B:Bool×PS×SS,E7 a c B.1 B.2.1 B.2.2->rf (LX 0 e A (B.1,B.2.1,B.2.2))/\ED A.1 c B.1 B.2.1 B.2.2)/\True) ∅ λA hp=>by
 dsimp only;show(AB (λh1=>⟨rfl,⟨⟨hp.g.lt,hp.g.z⟩,hp.st,hp.ph⟩,λB g=>⟨rfl,I8 g rfl rfl⟩,trv⟩) λh1=>⟨rfl,⟨⟨hp.g.lt,hp.g.z⟩,hp.st,hp.ph⟩,λB g=>⟨rfl,I8 g rfl h1⟩,trv⟩)
theorem te:Is (AP ua 145 Fa (EU true)):=AQ (p:=∀A:PS×AS,HE A.1 A.2.1->let c:=A.2.1;let d:=oN (EU true) 0;let e:=A.2.2;AF (A.1.4) (λZ=>let b:=Ef A.1.1 A.1.2 A.1.3 false A.1.5 A.1.6 A.1.7 A.1.8 A.1.9 A.1.10;rf (LA (GU true) (b,c,e.1,e.2))/\HE b c/\(∀B:Bool×PS×SS,E7 b c B.1 B.2.1 B.2.2->rf (LX 0 d A (B.1,B.2.1,B.2.2))/\ED A.1 c B.1 B.2.1 B.2.2)/\True) λZ=>let a:=Ef A.1.1 A.1.2 A.1.3 A.1.4 A.1.5 (A.1.6+1) A.1.7 (A.1.8+1) A.1.9 A.1.10;rf (LA (GU true) (a,c,e.1,e.2))/\HE a c/\(∀B:Bool×PS×SS,E7 a c B.1 B.2.1 B.2.2->rf (LX 0 d A (B.1,B.2.1,B.2.2))/\ED A.1 c B.1 B.2.1 B.2.2)/\True) ∅ λA hp=>by
 dsimp only;show(AB (λh1=>⟨rfl,⟨⟨hp.g.lt,hp.g.z⟩,hp.st,hp.ph⟩,λB f=>⟨rfl,I8 f rfl rfl⟩,trv⟩) λh1=>⟨rfl,⟨⟨hp.g.lt,hp.g.z⟩,hp.st,hp.ph⟩,λB f=>⟨rfl,I8 f rfl h1⟩,trv⟩)
theorem Y9:Is (AP ua 145 CV (Dx false false)):=AQ (p:=∀A:Int×QS,DY false false A.1 A.2->L1 A.2.2.1.7/\L1 A.2.2.1.8/\L1 A.2.1.9/\let c:=A.2.2;let b:=CS c.1.1 c.1.2 c.1.3 c.1.4 c.1.5 c.1.6 c.1.7 (c.1.8++[(Ed false [] (Int.ofNat c.1.7.length) 0)]) c.1.9 c.1.10;rf (LA (Df false) (A.1,b))/\(E2 b/\cut Op.le c.1.3 A.1≠[])/\(∀B,B=AJ false (cut Op.le c.1.3 A.1) b->let e:=A.2.1;let a:=Ef e.1 e.2 e.3 e.4 (e.5+1) e.6 e.7 e.8 (e.9++[(Ed false [] A.1 0)]) e.10;let f:=oN (Dx false false) 0;AF (B.1) (λZ=>let d:=H0 c.2.2.1 c.2.2.2 0 0;rf (LA (E5 false) (B.2,c.2.1,d))/\Fc false B.2 c.2.1 d/\(∀C:Bool×SS×ES,((C.1=true->CL false B.2 d C.2.1 C.2.2)/\(C.1=false->CM false B.2 d C.2.1 C.2.2))->rf (LX 0 f A (C.1,a,C.2.1,C.2.2))/\EP false false A.1 A.2 C.1 a C.2.1 C.2.2)/\True) λZ=>rf (LX 0 f A (B.1,a,B.2,c.2.1))/\EP false false A.1 A.2 B.1 a B.2 c.2.1)/\True) ∅ λA hp=>by
 dsimp only;show⟨Be hp.t.pre.tr,Be hp.t.pre.ms,Be (Kf.len ⟨hp.t.f,hp.bok,hp.t.k⟩),rfl,⟨hp.ok,λh1=>hp.ne (e:=Ed false [] (Int.ofNat A.2.2.1.7.length) 0) h1⟩,λB h1=>(AB (λg=>⟨rfl,HF (AU hp.vs) (hp.ppre rfl (z:=B) h1 (q:=Ef A.2.1.1 A.2.1.2 A.2.1.3 A.2.1.4 (A.2.1.5+1) A.2.1.6 A.2.1.7 A.2.1.8 (A.2.1.9++[K0 false A.1]) A.2.1.10) rfl rfl ⟨rfl,rfl⟩),λC h3=>⟨rfl,hp.done rfl (z:=B) h1 (q:=Ef A.2.1.1 A.2.1.2 A.2.1.3 A.2.1.4 (A.2.1.5+1) A.2.1.6 A.2.1.7 A.2.1.8 (A.2.1.9++[K0 false A.1]) A.2.1.10) rfl rfl ⟨rfl,rfl⟩ (KU (AU hp.vs) h3) rfl⟩,trv⟩) λg=>⟨rfl,hp.ff h1 g⟩),trv⟩
theorem ZA:Is (AP ua 145 CV (Dx false true)):=AQ (p:=∀A:Int×QS,DY false true A.1 A.2->L1 A.2.2.1.7/\L1 A.2.2.1.8/\L1 A.2.1.9/\let c:=A.2.2;let b:=CS c.1.1 c.1.2 c.1.3 c.1.4 c.1.5 c.1.6 c.1.7 (c.1.8++[(Ed false [] (Int.ofNat c.1.7.length) 0)]) c.1.9 c.1.10;rf (LA (Df true) (A.1,b))/\(E2 b/\cut Op.le c.1.4 A.1≠[])/\(∀B,B=AJ true (cut Op.le c.1.4 A.1) b->let e:=A.2.1;let a:=Ef e.1 e.2 e.3 e.4 (e.5+1) e.6 e.7 e.8 (e.9++[(Ed true [] A.1 0)]) e.10;let f:=oN (Dx false true) 0;AF (B.1) (λZ=>let d:=H0 c.2.2.1 c.2.2.2 0 0;rf (LA (E5 false) (B.2,c.2.1,d))/\Fc false B.2 c.2.1 d/\(∀C:Bool×SS×ES,((C.1=true->CL false B.2 d C.2.1 C.2.2)/\(C.1=false->CM false B.2 d C.2.1 C.2.2))->rf (LX 0 f A (C.1,a,C.2.1,C.2.2))/\EP false true A.1 A.2 C.1 a C.2.1 C.2.2)/\True) λZ=>rf (LX 0 f A (B.1,a,B.2,c.2.1))/\EP false true A.1 A.2 B.1 a B.2 c.2.1)/\True) ∅ λA hp=>by
 dsimp only;show⟨Be hp.t.pre.tr,Be hp.t.pre.ms,Be (Kf.len ⟨hp.t.f,hp.bok,hp.t.k⟩),rfl,⟨hp.ok,λh1=>hp.ne (e:=Ed false [] (Int.ofNat A.2.2.1.7.length) 0) h1⟩,λB h1=>(AB (λg=>⟨rfl,HF (AU hp.vs) (hp.ppre rfl (z:=B) h1 (q:=Ef A.2.1.1 A.2.1.2 A.2.1.3 A.2.1.4 (A.2.1.5+1) A.2.1.6 A.2.1.7 A.2.1.8 (A.2.1.9++[K0 true A.1]) A.2.1.10) rfl rfl ⟨rfl,rfl⟩),λC h3=>⟨rfl,hp.done rfl (z:=B) h1 (q:=Ef A.2.1.1 A.2.1.2 A.2.1.3 A.2.1.4 (A.2.1.5+1) A.2.1.6 A.2.1.7 A.2.1.8 (A.2.1.9++[K0 true A.1]) A.2.1.10) rfl rfl ⟨rfl,rfl⟩ (KU (AU hp.vs) h3) rfl⟩,trv⟩) λg=>⟨rfl,hp.ff h1 g⟩),trv⟩
theorem ZB:Is (AP ua 145 CV (Dx true false)):=AQ (p:=∀A:Int×QS,DY true false A.1 A.2->L1 A.2.2.1.7/\L1 A.2.2.1.8/\L1 A.2.1.9/\let c:=A.2.2;let b:=CS c.1.1 c.1.2 c.1.3 c.1.4 c.1.5 c.1.6 c.1.7 (c.1.8++[(Ed false [] (Int.ofNat c.1.7.length) 0)]) c.1.9 c.1.10;rf (LA (Df false) (A.1,b))/\(E2 b/\cut Op.le c.1.3 A.1≠[])/\(∀B,B=AJ false (cut Op.le c.1.3 A.1) b->let d:=A.2.1;let a:=Ef d.1 d.2 d.3 d.4 (d.5+1) d.6 d.7 d.8 (d.9++[(Ed false [] A.1 0)]) d.10;let e:=oN (Dx true false) 0;AF (B.1) (λZ=>rf (LA (E5 true) (B.2,c.2.1,c.2.2))/\Fc true B.2 c.2.1 c.2.2/\(∀C:Bool×SS×ES,((C.1=true->CL true B.2 c.2.2 C.2.1 C.2.2)/\(C.1=false->CM true B.2 c.2.2 C.2.1 C.2.2))->rf (LX 0 e A (C.1,a,C.2.1,C.2.2))/\EP true false A.1 A.2 C.1 a C.2.1 C.2.2)/\True) λZ=>rf (LX 0 e A (B.1,a,B.2,c.2.1))/\EP true false A.1 A.2 B.1 a B.2 c.2.1)/\True) ∅ λA hp=>by
 dsimp only;show⟨Be hp.t.pre.tr,Be hp.t.pre.ms,Be (Kf.len ⟨hp.t.f,hp.bok,hp.t.k⟩),rfl,⟨hp.ok,λh1=>hp.ne (e:=Ed false [] (Int.ofNat A.2.2.1.7.length) 0) h1⟩,λB h1=>(AB (λf=>⟨rfl,HF rfl (hp.ppre rfl (z:=B) h1 (q:=Ef A.2.1.1 A.2.1.2 A.2.1.3 A.2.1.4 (A.2.1.5+1) A.2.1.6 A.2.1.7 A.2.1.8 (A.2.1.9++[K0 false A.1]) A.2.1.10) rfl rfl ⟨rfl,rfl⟩),λC h3=>⟨rfl,hp.done rfl (z:=B) h1 (q:=Ef A.2.1.1 A.2.1.2 A.2.1.3 A.2.1.4 (A.2.1.5+1) A.2.1.6 A.2.1.7 A.2.1.8 (A.2.1.9++[K0 false A.1]) A.2.1.10) rfl rfl ⟨rfl,rfl⟩ (KU rfl h3) rfl⟩,trv⟩) λf=>⟨rfl,hp.ff h1 f⟩),trv⟩
theorem ZC:Is (AP ua 145 CV (Dx true true)):=AQ (p:=∀A:Int×QS,DY true true A.1 A.2->L1 A.2.2.1.7/\L1 A.2.2.1.8/\L1 A.2.1.9/\let c:=A.2.2;let b:=CS c.1.1 c.1.2 c.1.3 c.1.4 c.1.5 c.1.6 c.1.7 (c.1.8++[(Ed false [] (Int.ofNat c.1.7.length) 0)]) c.1.9 c.1.10;rf (LA (Df true) (A.1,b))/\(E2 b/\cut Op.le c.1.4 A.1≠[])/\(∀B,B=AJ true (cut Op.le c.1.4 A.1) b->let d:=A.2.1;let a:=Ef d.1 d.2 d.3 d.4 (d.5+1) d.6 d.7 d.8 (d.9++[(Ed true [] A.1 0)]) d.10;let e:=oN (Dx true true) 0;AF (B.1) (λZ=>rf (LA (E5 true) (B.2,c.2.1,c.2.2))/\Fc true B.2 c.2.1 c.2.2/\(∀C:Bool×SS×ES,((C.1=true->CL true B.2 c.2.2 C.2.1 C.2.2)/\(C.1=false->CM true B.2 c.2.2 C.2.1 C.2.2))->rf (LX 0 e A (C.1,a,C.2.1,C.2.2))/\EP true true A.1 A.2 C.1 a C.2.1 C.2.2)/\True) λZ=>rf (LX 0 e A (B.1,a,B.2,c.2.1))/\EP true true A.1 A.2 B.1 a B.2 c.2.1)/\True) ∅ λA hp=>by
 dsimp only;show⟨Be hp.t.pre.tr,Be hp.t.pre.ms,Be (Kf.len ⟨hp.t.f,hp.bok,hp.t.k⟩),rfl,⟨hp.ok,λh1=>hp.ne (e:=Ed false [] (Int.ofNat A.2.2.1.7.length) 0) h1⟩,λB h1=>(AB (λf=>⟨rfl,HF rfl (hp.ppre rfl (z:=B) h1 (q:=Ef A.2.1.1 A.2.1.2 A.2.1.3 A.2.1.4 (A.2.1.5+1) A.2.1.6 A.2.1.7 A.2.1.8 (A.2.1.9++[K0 true A.1]) A.2.1.10) rfl rfl ⟨rfl,rfl⟩),λC h3=>⟨rfl,hp.done rfl (z:=B) h1 (q:=Ef A.2.1.1 A.2.1.2 A.2.1.3 A.2.1.4 (A.2.1.5+1) A.2.1.6 A.2.1.7 A.2.1.8 (A.2.1.9++[K0 true A.1]) A.2.1.10) rfl rfl ⟨rfl,rfl⟩ (KU rfl h3) rfl⟩,trv⟩) λf=>⟨rfl,hp.ff h1 f⟩),trv⟩
theorem mC:Is (AP zQ 160 C0 (Kg false true)):=AQ (p:=∀A:PS×AS,AAK false true A->let b:=A.2.2;let a:=H0 b.2.1 b.2.2 0 0;rf (LA (EU false) (A.1,A.2.1,b.1,a))/\HE A.1 A.2.1/\(∀C:Bool×PS×SS,let c:=C.2.2;ED A.1 A.2.1 C.1 C.2.1 c->let d:=Kg false true;AF (C.1) (λZ=>rf (LA (E5 false) (c,b.1,a))/\Fc false c b.1 a/\(∀B:Bool×SS×ES,((B.1=true->CL false c a B.2.1 B.2.2)/\(B.1=false->CM false c a B.2.1 B.2.2))->rf (LX 0 (oN d 1) A (B.1,C.2.1,B.2.1,B.2.2))/\Se false true A B.1 C.2.1 B.2.1 B.2.2)/\True) λZ=>rf (LX 0 (oN d 0) A (C.2.1,c,b.1))/\BE false true A=[])/\True) ∅ λA hp=>by
 dsimp only;show⟨rfl,hp.t rfl,λC h1=>(AB (λf=>⟨rfl,HF (AU hp.vs) (R6 hp h1 f),λB h3=>⟨rfl,goB hp h1 f (KU (AU hp.vs) h3)⟩,trv⟩) λf=>⟨rfl,fa (b:=false) (p:=A) h1 f⟩),trv⟩
theorem mD:Is (AP zQ 160 C0 (Kg true true)):=AQ (p:=∀A:PS×AS,AAK true true A->let a:=A.2.2;rf (LA (EU true) (A.1,A.2.1,a.1,a.2))/\HE A.1 A.2.1/\(∀C:Bool×PS×SS,let b:=C.2.2;ED A.1 A.2.1 C.1 C.2.1 b->AF (C.1) (λZ=>rf (LA (E5 true) (b,a.1,a.2))/\Fc true b a.1 a.2/\(∀B:Bool×SS×ES,((B.1=true->CL true b a.2 B.2.1 B.2.2)/\(B.1=false->CM true b a.2 B.2.1 B.2.2))->rf (LX 0 (oN (Kg true true) 1) A (B.1,C.2.1,B.2.1,B.2.2))/\Se true true A B.1 C.2.1 B.2.1 B.2.2)/\True) λZ=>rf (LX 0 (oN (Kg true true) 0) A (C.2.1,b,a.1))/\BE true true A=[])/\True) ∅ λA hp=>by
 dsimp only;show⟨rfl,hp.t rfl,λC h1=>(AB (λc=>⟨rfl,HF rfl (R6 hp h1 c),λB h3=>⟨rfl,goB hp h1 c (KU rfl h3)⟩,trv⟩) λc=>⟨rfl,fa (b:=true) (p:=A) h1 c⟩),trv⟩
theorem mF:Is (AP zQ 160 C0 (Kg false false)):=AQ (p:=∀A:PS×AS,AAK false false A->let b:=A.2.2;let a:=H0 b.2.1 b.2.2 0 0;rf (LA (Gl false) (A.1,A.2.1,b.1,a))/\((Af A.2.1/\A.2.1.7.length.succ.le 890)/\U0 A.1)/\(∀C:Bool×PS×SS,let c:=C.2.2;let e:=C.2.1;(e=A.1/\(C.1,c)=Fq A.1.1 A.1.2 A.2.1)->let d:=oN (Kg false false) 1;AF (C.1) (λZ=>rf (LA (E5 false) (c,b.1,a))/\Fc false c b.1 a/\(∀B:Bool×SS×ES,((B.1=true->CL false c a B.2.1 B.2.2)/\(B.1=false->CM false c a B.2.1 B.2.2))->rf (LX 0 d A (B.1,e,B.2.1,B.2.2))/\Se false false A B.1 e B.2.1 B.2.2)/\True) λZ=>rf (LX 0 d A (C.1,e,c,b.1))/\Se false false A C.1 e c b.1)/\True) ∅ λA hp=>by
 dsimp only;show⟨rfl,⟨⟨(hp.u rfl).pre.toAf,(hp.u rfl).pre.tr_lt⟩,hp.g⟩,λC h1=>(AB (λf=>⟨rfl,HF (AU hp.vs) (Mh hp h1 f),λB h3=>⟨rfl,W2 hp h1 f (KU (AU hp.vs) h3)⟩,trv⟩) λf=>⟨rfl,fc hp h1 f⟩),trv⟩
theorem mG:Is (AP zQ 160 C0 (Kg true false)):=AQ (p:=∀A:PS×AS,AAK true false A->let a:=A.2.2;rf (LA (Gl true) (A.1,A.2.1,a.1,a.2))/\((Af A.2.1/\A.2.1.7.length.succ.le 890)/\U0 A.1)/\(∀C:Bool×PS×SS,let b:=C.2.2;let d:=C.2.1;(d=A.1/\(C.1,b)=Fq A.1.1 A.1.2 A.2.1)->let c:=oN (Kg true false) 1;AF (C.1) (λZ=>rf (LA (E5 true) (b,a.1,a.2))/\Fc true b a.1 a.2/\(∀B:Bool×SS×ES,((B.1=true->CL true b a.2 B.2.1 B.2.2)/\(B.1=false->CM true b a.2 B.2.1 B.2.2))->rf (LX 0 c A (B.1,d,B.2.1,B.2.2))/\Se true false A B.1 d B.2.1 B.2.2)/\True) λZ=>rf (LX 0 c A (C.1,d,b,a.1))/\Se true false A C.1 d b a.1)/\True) ∅ λA hp=>by
 dsimp only;show⟨rfl,⟨⟨(hp.u rfl).pre.toAf,(hp.u rfl).pre.tr_lt⟩,hp.g⟩,λC h1=>(AB (λf=>⟨rfl,HF rfl (Mh hp h1 f),λB h3=>⟨rfl,W2 hp h1 f (KU rfl h3)⟩,trv⟩) λf=>⟨rfl,fc hp h1 f⟩),trv⟩
abbrev pX (u):=(∀A:PS×AS,Af A.2.1->let e:=A.2.1;let h:=LA (ET false) e;rf h/\Af e/\(∀C:Unit,True->let a:=e;let c:=LA (ET true) e;let d:=List.length a.3;let f:=!AT a.4;let g:=DO u;let b:=LX 0 (oN g 1) A ();AF (!AT a.3) (λZ=>rf c/\Af e/\(∀B:Unit,True->AF (f) (λZ=>a.3≠[]/\d.le 1000/\rf b/\AT a.3=false) λZ=>a.3≠[]/\d.le 1000/\rf b/\AT a.3=false)/\True) λZ=>rf c/\Af e/\(∀B:Unit,True->let i:=LX 0 (oN g 2) A ();let j:=List.length a.4;AF (f) (λZ=>a.4≠[]/\j.le 1000/\rf i/\AT a.3=true/\AT a.4=false) λZ=>rf h/\Af e/\(∀E:Unit,True->AF (!AT a.3) (λZ=>rf c/\Af e/\(∀D:Unit,True->AF (f) (λZ=>a.3≠[]/\d.le 1000/\rf b/\AT a.3=false) λZ=>a.3≠[]/\d.le 1000/\rf b/\AT a.3=false)/\True) λZ=>rf c/\Af e/\(∀D:Unit,True->AF (f) (λZ=>a.4≠[]/\j.le 1000/\rf i/\AT a.3=true/\AT a.4=false) λZ=>rf (LX 0 (oN g 0) A ())/\AT a.3=true/\AT a.4=true)/\True)/\True)/\True)/\True:Prop)
def iA:pX false=AP Z8 60 Bp (DO false):=∅
def iB:pX true=AP Z8 60 Bp (DO true):=∅
def XG:Is (AP Z8 60 Bp (DO false))/\Is (AP Z8 60 Bp (DO true)):=by
 show⟨AQ iA ?_,AQ iB ?_⟩<;>
 (intro A hp
  dsimp only;show⟨rfl,hp,λC h1=>(AB (λa=>⟨rfl,hp,λB h3=>(AB (λb=>⟨λf=>hp.n0 f,Bh hp.g0,rfl,BG a⟩) λb=>⟨λf=>hp.n0 f,Bh hp.g0,rfl,BG a⟩),trv⟩) λa=>⟨rfl,hp,λB h3=>(AB (λb=>⟨λf=>hp.n1 f,Bh hp.g1,rfl,A3 a,BG b⟩) λb=>⟨rfl,hp,λE f=>(AB (λc=>⟨rfl,hp,λD h=>(AB (λd=>⟨λg=>Aj (A3 a) (BG c),Aj (A3 a) (BG c),rfl,Aj (A3 a) (BG c)⟩) λd=>⟨λg=>Aj (A3 a) (BG c),Aj (A3 a) (BG c),rfl,Aj (A3 a) (BG c)⟩),trv⟩) λc=>⟨rfl,hp,λD h=>(AB (λd=>⟨λg=>Aj (A3 b) (BG d),Aj (A3 b) (BG d),rfl,Aj (A3 b) (BG d),Aj (A3 b) (BG d)⟩) λd=>⟨rfl,A3 c,A3 d⟩),trv⟩),trv⟩),trv⟩),trv⟩)
theorem th:Is (AP Z8 60 Bp (DO false)):=XG.1
theorem ti:Is (AP Z8 60 Bp (DO true)):=XG.2
abbrev SJ (H)(J)(N)(U)(Y):=(∀B:PS×AS,AAK false H B->AF (B.1.3) (λZ=>False) (λZ=>let t:=B.2.2;let w:=H0 t.2.1 t.2.2 0 0;let e:=(B.1,B.2.1,t.1,w);rf (LA (Kg false H) e)/\AAK false H e/\let l:=C7 false H;let f0:=oN l 0;(∀C:PS×SS×ES,BE false H e=[]->rf (LX 0 f0 B ((Ef C.1.1 C.1.2 true C.1.4 C.1.5 C.1.6 C.1.7 C.1.8 C.1.9 C.1.10),C.2.1,C.2.2))/\BE false H B=[]/\true=true)/\(∀C:Bool×RQ,let c0:=C.2.2;Se false H e C.1 C.2.1 c0.1 c0.2->let b:=((C.2.1,c0.1,c0.2,w),C.1);let m:=Me false H;rf (LW m false b)/\Gq false b b/\∀D:QS×Bool,Gq false b D->Ut (let c:=D.1.2;let a:=H0 c.2.2.1 c.2.2.2 0 0;let u:=D.1.1;let f:=(u,c.1,c.2.1,a);let y:=(J,Lf.n c.2.2.1);let z:=(N,Lf.n c.2.2.1);let a0:=(U,Lf.i c.2.2.2);let b0:=(Y,Lf.n c.2.2.1);AF (!D.2) (λZ=>rf (LA (EU false) f)/\HE u c.1/\(∀E:Bool×PS×SS,let v:=E.2.2;ED u c.1 E.1 E.2.1 v->AF (E.1) (λZ=>rf (LA (E5 false) (v,c.2.1,a))/\Fc false v c.2.1 a/\(∀A:Bool×SS×ES,((A.1=true->CL false v a A.2.1 A.2.2)/\(A.1=false->CM false v a A.2.1 A.2.2))->let k:=((E.2.1,A.2.1,A.2.2,a),A.1);rf (LW m false k)/\Gq false b k/\(wN k).succ.le (wN D))/\True) λZ=>(let q:=E.2.1;let g:=((Ef q.1 q.2 true q.4 q.5 q.6 q.7 q.8 q.9 q.10),v,c.2.1);Ez (LX 0 f0 B g) [y,z,a0,b0]=LX 0 f0 B g)/\BE false H B=[]/\true=true)/\True) λZ=>rf (LA (DO false) f)/\Af c.1/\let r:=Ac c.1.3;let s:=Ac c.1.4;(∀E:Unit,(AT c.1.3=true/\AT c.1.4=true)->c.1.3≠[]/\L1 c.1.3/\c.1.4≠[]/\L1 c.1.4/\let p:=u;let d:=Ef p.1 p.2 p.3 true p.5 p.6 p.7 p.8 p.9 p.10;(let o:=((r,s),d,c.1,c.2.1);Ez (LX 0 (oN l 1) B o) [y,z,a0,b0]=LX 0 (oN l 1) B o)/\Gm false H B r s (d,c.1,c.2.1,t.2))/\(∀E:Unit,AT c.1.3=false->rf (LA (Dx false false) (Ac c.1.3,u,c.1,c.2.1,a))/\DY false false r f/\(∀A:Bool×PS×SS×ES,let d0:=A.2.2;EP false false r f A.1 A.2.1 d0.1 d0.2->let h:=((A.2.1,d0.1,d0.2,a),A.1);rf (LW m false h)/\Gq false b h/\(wN h).succ.le (wN D))/\True)/\(∀E:Unit,(AT c.1.3=true/\AT c.1.4=false)->rf (LA (Dx false true) (Ac c.1.4,u,c.1,c.2.1,a))/\DY false true s f/\(∀A:Bool×PS×SS×ES,let e0:=A.2.2;EP false true s f A.1 A.2.1 e0.1 e0.2->let j:=((A.2.1,e0.1,e0.2,a),A.1);rf (LW m false j)/\Gq false b j/\(wN j).succ.le (wN D))/\True)/\True))/\True):Prop)
def SK:SJ true 9 10 11 12=AP (Zm false true) 175 A5 (C7 false true):=∅
def AAb:SJ false 13 14 15 16=AP (Zm false false) 175 A5 (C7 false false):=∅
def Mu:Is (AP (Zm false true) 175 A5 (C7 false true))/\Is (AP (Zm false false) 175 A5 (C7 false false)):=by
 show⟨AQ SK ?_,AQ AAb ?_⟩<;>
 (intro B hp
  dsimp only;show(AB (λh1=>Aj h1 hp.ov) λh1=>⟨rfl,EK (p:=B) (AU hp.vs) hp,λC a=>⟨rfl,Pq (AU hp.vs) a,rfl⟩,(λC a=>⟨rfl,Gq.first (AU hp.vs) a,(λD h3=>(Dd (AB (λb=>⟨rfl,fh hp (AU hp.vs) a h3 (BG b),λE d=>(AB (λc=>⟨rfl,fj hp (AU hp.vs) a h3 (GV h3.vq) d c,λA f=>⟨rfl,fk hp (AU hp.vs) a h3 (GV h3.vq) (BG b) d c f,W3 hp (AU hp.vs) a h3 (GV h3.vq) (BG b) d c f⟩,trv⟩) λc=>⟨(by rw[show D.1.2.2.2.1=B.2.2.2.1 from h3.vq.k0,show D.1.2.2.2.2=B.2.2.2.2 from h3.vq.c0]<;>kernel_rfl),fm hp (AU hp.vs) a h3 (BG b) d c,rfl⟩),trv⟩) λb=>⟨rfl,(H8 hp (AU hp.vs) a h3 (A3 b)).toAf,λE d=>⟨λc=>(H8 hp (AU hp.vs) a h3 (A3 b)).n0 c,Be (Ar _ (H8 hp (AU hp.vs) a h3 (A3 b)).g0),λc=>(H8 hp (AU hp.vs) a h3 (A3 b)).n1 c,Be (Ar _ (H8 hp (AU hp.vs) a h3 (A3 b)).g1),(by rw[show D.1.2.2.2.1=B.2.2.2.1 from h3.vq.k0,show D.1.2.2.2.2=B.2.2.2.2 from h3.vq.c0]<;>kernel_rfl),fp hp (AU hp.vs) a h3 (A3 b) d rfl⟩,(λE d=>⟨rfl,Ps hp (AU hp.vs) a h3 (GV h3.vq) (A3 b) false d (λh=>(nomatch h)),λA c=>⟨rfl,Pt hp (AU hp.vs) a h3 (GV h3.vq) (A3 b) c,K4 hp (AU hp.vs) a h3 (GV h3.vq) (A3 b) c⟩,trv⟩),λE d=>⟨rfl,Ps hp (AU hp.vs) a h3 (GV h3.vq) (A3 b) true d.2 λZ=>d.1,λA c=>⟨rfl,Pt hp (AU hp.vs) a h3 (GV h3.vq) (A3 b) c,K4 hp (AU hp.vs) a h3 (GV h3.vq) (A3 b) c⟩,trv⟩,trv⟩)))⟩),trv⟩))
theorem ZD:Is (AP (Zm false true) 175 A5 (C7 false true)):=Mu.1
theorem ZE:Is (AP (Zm false false) 175 A5 (C7 false false)):=Mu.2
abbrev SM (H)(J)(N)(U)(Y)(pf9)(pg9)(ph9)(pi9):=(∀B:PS×AS,AAK true H B->AF (B.1.3) (λZ=>False) (λZ=>let e0:=B.2.2;let f:=(B.1,B.2.1,e0.1,e0.2);rf (LA (Kg true H) f)/\AAK true H f/\let k:=C7 true H;let h0:=oN k 0;(∀C:PS×SS×ES,BE true H f=[]->rf (LX 0 h0 B ((Ef C.1.1 C.1.2 true C.1.4 C.1.5 C.1.6 C.1.7 C.1.8 C.1.9 C.1.10),C.2.1,C.2.2))/\BE true H B=[]/\true=true)/\(∀C:Bool×RQ,let d0:=C.2.2;Se true H f C.1 C.2.1 d0.1 d0.2->let b:=((C.2.1,d0.1,d0.2,e0.2),C.1);let m:=Me true H;rf (LW m false b)/\Gq true b b/\∀D:QS×Bool,Gq true b D->Ut (let a:=D.1.2;let s:=D.1.1;let d:=(s,a.1,a.2.1,a.2.2);let u:=(J,Lf.n a.2.2.3);let v:=(N,Lf.n a.2.2.3);let w:=(U,Lf.i a.2.2.4);let y:=(Y,Lf.n a.2.2.3);let z:=(pf9,Lf.n a.2.2.1);let a0:=(pg9,Lf.n a.2.2.1);let b0:=(ph9,Lf.i a.2.2.2);let c0:=(pi9,Lf.n a.2.2.1);AF (!D.2) (λZ=>rf (LA (EU true) d)/\HE s a.1/\(∀E:Bool×PS×SS,let t:=E.2.2;ED s a.1 E.1 E.2.1 t->AF (E.1) (λZ=>rf (LA (E5 true) (t,a.2.1,a.2.2))/\Fc true t a.2.1 a.2.2/\(∀A:Bool×SS×ES,((A.1=true->CL true t a.2.2 A.2.1 A.2.2)/\(A.1=false->CM true t a.2.2 A.2.1 A.2.2))->let j:=((E.2.1,A.2.1,A.2.2,a.2.2),A.1);rf (LW m false j)/\Gq true b j/\(wN j).succ.le (wN D))/\True) λZ=>(let p:=E.2.1;let e:=((Ef p.1 p.2 true p.4 p.5 p.6 p.7 p.8 p.9 p.10),t,a.2.1);Ez (LX 0 h0 B e) [u,v,w,y,z,a0,b0,c0]=LX 0 h0 B e)/\BE true H B=[]/\true=true)/\True) λZ=>rf (LA (DO true) d)/\Af a.1/\let q:=Ac a.1.3;let r:=Ac a.1.4;(∀E:Unit,(AT a.1.3=true/\AT a.1.4=true)->a.1.3≠[]/\L1 a.1.3/\a.1.4≠[]/\L1 a.1.4/\let o:=s;let c:=Ef o.1 o.2 o.3 true o.5 o.6 o.7 o.8 o.9 o.10;(let l:=((q,r),c,a.1,a.2.1);Ez (LX 0 (oN k 1) B l) [u,v,w,y,z,a0,b0,c0]=LX 0 (oN k 1) B l)/\Gm true H B q r (c,a.1,a.2.1,e0.2))/\(∀E:Unit,AT a.1.3=false->rf (LA (Dx true false) (Ac a.1.3,s,a.1,a.2.1,a.2.2))/\DY true false q d/\(∀A:Bool×PS×SS×ES,let f0:=A.2.2;EP true false q d A.1 A.2.1 f0.1 f0.2->let g:=((A.2.1,f0.1,f0.2,a.2.2),A.1);rf (LW m false g)/\Gq true b g/\(wN g).succ.le (wN D))/\True)/\(∀E:Unit,(AT a.1.3=true/\AT a.1.4=false)->rf (LA (Dx true true) (Ac a.1.4,s,a.1,a.2.1,a.2.2))/\DY true true r d/\(∀A:Bool×PS×SS×ES,let g0:=A.2.2;EP true true r d A.1 A.2.1 g0.1 g0.2->let h:=((A.2.1,g0.1,g0.2,a.2.2),A.1);rf (LW m false h)/\Gq true b h/\(wN h).succ.le (wN D))/\True)/\True))/\True):Prop)
def SN:SM true 9 10 11 12 13 14 15 16=AP (Zm true true) 175 A5 (C7 true true):=∅
def SO:SM false 13 14 15 16 17 18 19 20=AP (Zm true false) 175 A5 (C7 true false):=∅
def Mv:Is (AP (Zm true true) 175 A5 (C7 true true))/\Is (AP (Zm true false) 175 A5 (C7 true false)):=by
 show⟨AQ SN ?_,AQ SO ?_⟩<;>
 (intro B hp
  dsimp only;show(AB (λh1=>Aj h1 hp.ov) λh1=>⟨rfl,EK (p:=B) rfl hp,λC a=>⟨rfl,Pq rfl a,rfl⟩,(λC a=>⟨rfl,Gq.first rfl a,(λD h3=>(Dd (AB (λb=>⟨rfl,fh hp rfl a h3 (BG b),λE d=>(AB (λc=>⟨rfl,fj hp rfl a h3 (JA h3.vq) d c,λA f=>⟨rfl,fk hp rfl a h3 (JA h3.vq) (BG b) d c f,W3 hp rfl a h3 (JA h3.vq) (BG b) d c f⟩,trv⟩) λc=>⟨(by rw[show D.1.2.2.2.1=B.2.2.2.1 from h3.vq.k0,show D.1.2.2.2.2=B.2.2.2.2 from h3.vq.c0,show D.1.2.2.2.3=B.2.2.2.3 from h3.vq.k1,show D.1.2.2.2.4=B.2.2.2.4 from h3.vq.c1]<;>kernel_rfl),fm hp rfl a h3 (BG b) d c,rfl⟩),trv⟩) λb=>⟨rfl,(H8 hp rfl a h3 (A3 b)).toAf,λE d=>⟨λc=>(H8 hp rfl a h3 (A3 b)).n0 c,Be (Ar _ (H8 hp rfl a h3 (A3 b)).g0),λc=>(H8 hp rfl a h3 (A3 b)).n1 c,Be (Ar _ (H8 hp rfl a h3 (A3 b)).g1),(by rw[show D.1.2.2.2.1=B.2.2.2.1 from h3.vq.k0,show D.1.2.2.2.2=B.2.2.2.2 from h3.vq.c0,show D.1.2.2.2.3=B.2.2.2.3 from h3.vq.k1,show D.1.2.2.2.4=B.2.2.2.4 from h3.vq.c1]<;>kernel_rfl),fp hp rfl a h3 (A3 b) d rfl⟩,(λE d=>⟨rfl,Ps hp rfl a h3 (JA h3.vq) (A3 b) false d (λh=>(nomatch h)),λA c=>⟨rfl,Pt hp rfl a h3 (JA h3.vq) (A3 b) c,K4 hp rfl a h3 (JA h3.vq) (A3 b) c⟩,trv⟩),λE d=>⟨rfl,Ps hp rfl a h3 (JA h3.vq) (A3 b) true d.2 λZ=>d.1,λA c=>⟨rfl,Pt hp rfl a h3 (JA h3.vq) (A3 b) c,K4 hp rfl a h3 (JA h3.vq) (A3 b) c⟩,trv⟩,trv⟩)))⟩),trv⟩))
theorem ZF:Is (AP (Zm true true) 175 A5 (C7 true true)):=Mv.1
theorem ZG:Is (AP (Zm true false) 175 A5 (C7 true false)):=Mv.2
abbrev QC (j):=(∀D:Unit,True->∀B C:Addr,(let a:=Dt.v (Value.ref B);let b:=Dt.v (Value.ref C);[AV.d a,AV.d b]=[AV.d a,AV.d b])/\(∀A:Nat,A=A/\(2:Nat)=2/\A=A/\(2:Nat)=2/\A=A/\(2:Nat)=2/\rf (LX 0 (oN (Cs j) 0) () ())/\True):Prop)
def VH:QC 0=H4 NN 39 B2 [1,1] [0,1] (Cs 0):=∅
def VI:QC 1=H4 NN 39 B2 [1,-1] [0,1] (Cs 1):=∅
def VJ:QC 2=H4 NN 39 B2 [1,2] [0,1] (Cs 2):=∅
def J5:Is (H4 NN 39 B2 [1,1] [0,1] (Cs 0))/\Is (H4 NN 39 B2 [1,-1] [0,1] (Cs 1))/\Is (H4 NN 39 B2 [1,2] [0,1] (Cs 2)):=by
 show⟨AQ VH ?_,AQ VI ?_,AQ VJ ?_⟩<;>
 (intro D hp
  dsimp only;show(λB C=>⟨rfl,λA=>⟨rfl,rfl,rfl,rfl,rfl,rfl,rfl,trv⟩⟩))
theorem iC:Is (H4 NN 39 B2 [1,1] [0,1] (Cs 0)):=J5.1
theorem iE:Is (H4 NN 39 B2 [1,-1] [0,1] (Cs 1)):=J5.2.1
theorem iF:Is (H4 NN 39 B2 [1,2] [0,1] (Cs 2)):=J5.2.2
abbrev He (j)(u):=(∀A:Int,True->rf (LA (Cs j) ())/\True/\(∀B:Unit,True->rf (LX 0 (oN (BU u) 0) A ())/\True)/\True:Prop)
def VK:He 0 0=DC M0 60 Av (BU 0) B0 AK:=∅
def VL:He 1 1=DC M0 60 Av (BU 1) B0 AK:=∅
def VM:He 2 2=DC M0 60 Av (BU 2) B0 AK:=∅
def VN:He 0 3=DC M0 60 Aw (BU 3) B1 AK:=∅
def VO:He 1 4=DC M0 60 Aw (BU 4) B1 AK:=∅
def VP:He 2 5=DC M0 60 Aw (BU 5) B1 AK:=∅
def Eh:Is (DC M0 60 Av (BU 0) B0 AK)/\Is (DC M0 60 Av (BU 1) B0 AK)/\Is (DC M0 60 Av (BU 2) B0 AK)/\Is (DC M0 60 Aw (BU 3) B1 AK)/\Is (DC M0 60 Aw (BU 4) B1 AK)/\Is (DC M0 60 Aw (BU 5) B1 AK):=by
 show⟨AQ VK ?_,AQ VL ?_,AQ VM ?_,AQ VN ?_,AQ VO ?_,AQ VP ?_⟩<;>
 (intro A hp
  show⟨rfl,trivial,λB h1=>⟨rfl,trv⟩,trv⟩)
theorem iG:Is (DC M0 60 Av (BU 0) B0 AK):=Eh.1
theorem iH:Is (DC M0 60 Av (BU 1) B0 AK):=Eh.2.1
theorem iI:Is (DC M0 60 Av (BU 2) B0 AK):=Eh.2.2.1
theorem iJ:Is (DC M0 60 Aw (BU 3) B1 AK):=Eh.2.2.2.1
theorem iK:Is (DC M0 60 Aw (BU 4) B1 AK):=Eh.2.2.2.2.1
theorem iL:Is (DC M0 60 Aw (BU 5) B1 AK):=Eh.2.2.2.2.2
def iM:Is (DC M0 60 CJ (BU 6) Dr AK):=by
 show AQ (p:=∀A:Int,True->rf (LA (Cs 0) ())/\True/\(∀B:Unit,True->((1:Int)=0->False)/\((1:Int)=0->False)/\rf (LX 0 (oN (BU 6) 0) A ())/\True)/\True) ∅ ?_;intro A hp;show⟨rfl,trivial,λB h1=>⟨λa=>absurd a ∅,λa=>absurd a ∅,rfl,trv⟩,trv⟩
def iN:Is (DC M0 60 CJ (BU 7) Dr AK):=by
 show AQ (p:=∀A:Int,True->rf (LA (Cs 1) ())/\True/\(∀B:Unit,True->((1:Int)=0->False)/\(Int.ofNat (Nat.succ 0)=0->False)/\rf (LX 0 (oN (BU 7) 0) A ())/\True)/\True) ∅ ?_;intro A hp;show⟨rfl,trivial,λB h1=>⟨λa=>absurd a ∅,λa=>absurd a ∅,rfl,trv⟩,trv⟩
def iO:Is (DC M0 60 CJ (BU 8) Dr AK):=by
 show AQ (p:=∀A:Int,True->rf (LA (Cs 2) ())/\True/\(∀B:Unit,True->((1:Int)=0->False)/\((2:Int)=0->False)/\((1:Int)=0->False)/\rf (LX 0 (oN (BU 8) 0) A ())/\True)/\True) ∅ ?_;intro A hp;show⟨rfl,trivial,λB h1=>⟨λa=>absurd a ∅,λa=>absurd a ∅,λa=>absurd a ∅,rfl,trv⟩,trv⟩
abbrev EV (j):=(∀A:Int,True->rf (LA (BU j) A)/\True/\(∀B:Unit,True->rf (LX 0 (oN (BV j) 0) A ())/\True)/\True:Prop)
def VQ:EV 0=AP Jz 80 Ak (BV 0):=∅
def VT:EV 1=AP Jz 80 Ak (BV 1):=∅
def VU:EV 2=AP Jz 80 Ak (BV 2):=∅
def VV:EV 3=AP Jz 80 Ak (BV 3):=∅
def VW:EV 4=AP Jz 80 Ak (BV 4):=∅
def VX:EV 5=AP Jz 80 Ak (BV 5):=∅
def VY:EV 6=AP Jz 80 Ak (BV 6):=∅
def VZ:EV 7=AP Jz 80 Ak (BV 7):=∅
def Va:EV 8=AP Jz 80 Ak (BV 8):=∅
def DA:Is (AP Jz 80 Ak (BV 0))/\Is (AP Jz 80 Ak (BV 1))/\Is (AP Jz 80 Ak (BV 2))/\Is (AP Jz 80 Ak (BV 3))/\Is (AP Jz 80 Ak (BV 4))/\Is (AP Jz 80 Ak (BV 5))/\Is (AP Jz 80 Ak (BV 6))/\Is (AP Jz 80 Ak (BV 7))/\Is (AP Jz 80 Ak (BV 8)):=by
 show⟨AQ VQ ?_,AQ VT ?_,AQ VU ?_,AQ VV ?_,AQ VW ?_,AQ VX ?_,AQ VY ?_,AQ VZ ?_,AQ Va ?_⟩<;>
 (intro A hp
  show⟨rfl,trivial,λB h1=>⟨rfl,trv⟩,trv⟩)
theorem iP:Is (AP Jz 80 Ak (BV 0)):=DA.1
theorem iQ:Is (AP Jz 80 Ak (BV 1)):=DA.2.1
theorem iR:Is (AP Jz 80 Ak (BV 2)):=DA.2.2.1
theorem iS:Is (AP Jz 80 Ak (BV 3)):=DA.2.2.2.1
theorem iT:Is (AP Jz 80 Ak (BV 4)):=DA.2.2.2.2.1
theorem iU:Is (AP Jz 80 Ak (BV 5)):=DA.2.2.2.2.2.1
theorem iV:Is (AP Jz 80 Ak (BV 6)):=DA.2.2.2.2.2.2.1
theorem iW:Is (AP Jz 80 Ak (BV 7)):=DA.2.2.2.2.2.2.2.1
theorem iX:Is (AP Jz 80 Ak (BV 8)):=DA.2.2.2.2.2.2.2.2
theorem Vb:Is (AP Z17 120 D0 (HG false)):=AQ (p:=∀A:FS,EJ false A->AF (decide (Bg A.6<1)) (λZ=>False) λZ=>Nat.le 1 1000/\Nat.le 0 1000/\rf (LA I9 (A.t0.n,A.t0.m,A.t0.c))/\(A.t0.n.succ.le 3/\A.t0.m.succ.le 3)/\(∀B:Unit,True->let h:=(A.3,A.4);let j:=(A.1,A.2);let a:=CS (-1) false [j] [h] [j] [h] [] [] false false;(let g:=Value.bool false;rf (vL (kT A.t0) A.t0.c (sL a (Lf.b false::Lf.b false::Lf.b true::Lf.b false::Lf.b true::Lf.b false::Lf.i 0::Lf.i 0::Lf.i (-1)::Lf.v (Value.bool true)::Lf.v Value.none::bL (Lf.l []::Lf.l []::Lf.i 0::Lf.i 0::Lf.i 0::Lf.i 0::Lf.i 0::Lf.i 0::Lf.v g::Lf.v g::Lf.v g::Lf.v Value.none::Lf.v Value.none::Lf.i 0::Lf.n A.6::oL A.t0 (Lf.d [h]::Lf.s "y"::Lf.d [j]::Lf.s "x"::gL (Lf.n A.5::Lf.v Value.none::[])))))))/\let e:=Ee true (-1) true false true false false false;let f:=Ef 0 0 false false 0 0 0 0 [] [];(f,a,e,(H0 (kT A.t0) A.t0.c 0 0))=(f,a,e,(H0 (kT A.7) A.t0.c 0 0)))/\True) ∅ λA hp=>by
 dsimp only;show(AB (λh1=>fZ h1) λh1=>⟨DF rfl,DF rfl,rfl,⟨hp.t0.1,hp.t0.2⟩,λB b=>⟨rfl,rfl⟩,trv⟩)
theorem Vc:Is (AP Z17 120 D0 (HG true)):=AQ (p:=∀A:FS,EJ true A->AF (decide (Bg A.6<1)) (λZ=>False) λZ=>Nat.le 2 1000/\Nat.le 0 1000/\rf (LA I9 (A.t0.n,A.t0.m,A.t0.c))/\(A.t0.n.succ.le 3/\A.t0.m.succ.le 3)/\(∀B:Unit,True->rf (LA I9 (A.t1.n,A.t1.m,A.t1.c))/\(A.t1.n.succ.le 3/\A.t1.m.succ.le 3)/\(∀C:Unit,True->let h:=(A.3,A.4);let j:=(A.1,A.2);let a:=CS (-1) false [j] [h] [j] [h] [] [] false false;(let g:=Value.bool false;rf (vL (kT A.t1) A.t1.c (vL (kT A.t0) A.t0.c (sL a (Lf.b false::Lf.b false::Lf.b true::Lf.b true::Lf.b true::Lf.b true::Lf.i 1::Lf.i 0::Lf.i 1::Lf.i 0::Lf.i (-1)::Lf.v (Value.bool true)::Lf.v Value.none::bL (Lf.l []::Lf.l []::Lf.i 0::Lf.i 0::Lf.i 0::Lf.i 0::Lf.i 0::Lf.i 0::Lf.v g::Lf.v g::Lf.v g::Lf.v Value.none::Lf.v Value.none::Lf.i 0::Lf.n A.6::oL A.t1 (oL A.t0 (Lf.d [h]::Lf.s "y"::Lf.d [j]::Lf.s "x"::gL (Lf.n A.5::Lf.v Value.none::[])))))))))/\let e:=Ee true (-1) true true true true false false;let f:=Ef 0 0 false false 0 0 0 0 [] [];(f,a,e,(H0 (kT A.t0) A.t0.c (kT A.t1) A.t1.c))=(f,a,e,(H0 (kT A.7) A.t0.c (kT A.8) A.t1.c)))/\True)/\True) ∅ λA hp=>by
 dsimp only;show(AB (λh1=>fZ h1) λh1=>⟨DF rfl,DF rfl,rfl,⟨hp.t0.1,hp.t0.2⟩,λB b=>⟨rfl,⟨(hp.t1 rfl).1,(hp.t1 rfl).2⟩,λC h3=>⟨rfl,rfl⟩,trv⟩,trv⟩)
abbrev XH (u):=(∀A:FS×QS,(EJ false A.1/\AAK false u A.2)->let e:=A.2.2.2;let n:=H0 e.2.1 e.2.2 0 0;let b:=(A.2.1,A.2.2.1,e.1,n);rf (LA (C7 false u) b)/\AAK false u b/\(let o:=DX false u;(∀B:PS×SS×ES,(BE false u b=[]/\B.1.3=true)->rf (LX 0 (oN o 0) A (B.1,B.2.1,B.2.2))/\BE false u A.2=[]/\B.1.3=true)/\(∀B:(Int×Int)×RQ,let c:=B.2.2;let f:=B.1.1;let g:=B.1.2;Gm false u b f g (B.2.1,c.1,c.2,n)->A.1.5.succ.le 5/\let d:=oN o 1;let l:=A.1.5;let m:=(f,g);(l=0->rf (LX 1 d A (0,m,B.2.1,c.1,c.2))/\0=l/\Dj false u A.1 A.2 f g (B.2.1,c.1,c.2,e.2))/\let a:=B.2.1;(l=1->let h:=Ef 1 (f-1) a.3 a.4 a.5 a.6 a.7 a.8 a.9 a.10;rf (LX 2 d A (1,m,h,c.1,c.2))/\1=l/\Dj false u A.1 A.2 f g (h,c.1,c.2,e.2))/\(l=2->let i:=Ef 3 (f+1) a.3 a.4 a.5 a.6 a.7 a.8 a.9 a.10;rf (LX 2 d A (2,m,i,c.1,c.2))/\2=l/\Dj false u A.1 A.2 f g (i,c.1,c.2,e.2))/\(l=3->let j:=Ef 2 (g-1) a.3 a.4 a.5 a.6 a.7 a.8 a.9 a.10;rf (LX 2 d A (3,m,j,c.1,c.2))/\3=l/\Dj false u A.1 A.2 f g (j,c.1,c.2,e.2))/\(l=4->let k:=Ef 4 (g+1) a.3 a.4 a.5 a.6 a.7 a.8 a.9 a.10;rf (LX 2 d A (4,m,k,c.1,c.2))/\4=l/\Dj false u A.1 A.2 f g (k,c.1,c.2,e.2))/\True)/\True):Prop)
def Vd:XH false=AP Zn 200 Am (DX false false):=∅
def Ve:XH true=AP Zn 200 Am (DX false true):=∅
def Oc:Is (AP Zn 200 Am (DX false false))/\Is (AP Zn 200 Am (DX false true)):=by
 show⟨AQ Vd ?_,AQ Ve ?_⟩<;>
 (intro A hp
  dsimp only;show⟨rfl,EK (AU hp.2.vs) hp.2,λB h1=>⟨rfl,Pq (AU hp.2.vs) h1.1,h1.2⟩,λB h1=>⟨hp.1.g,λa=>⟨rfl,a.symm,ft (AU hp.2.vs) a h1⟩,λa=>⟨rfl,a.symm,KV (AU hp.2.vs) a h1 rfl rfl⟩,λa=>⟨rfl,a.symm,KV (AU hp.2.vs) a h1 rfl rfl⟩,λa=>⟨rfl,a.symm,KV (AU hp.2.vs) a h1 rfl rfl⟩,λa=>⟨rfl,a.symm,KV (AU hp.2.vs) a h1 rfl rfl⟩,trv⟩,trv⟩)
theorem iY:Is (AP Zn 200 Am (DX false false)):=Oc.1
theorem iZ:Is (AP Zn 200 Am (DX false true)):=Oc.2
abbrev XI (u):=(∀A:FS×QS,(EJ true A.1/\AAK true u A.2)->let k:=A.2.2.2;let c:=(A.2.1,A.2.2.1,k.1,k.2);rf (LA (C7 true u) c)/\AAK true u c/\(∀B:PS×SS×ES,(BE true u c=[]/\B.1.3=true)->rf (LX 0 (oN (DX true u) 0) A (B.1,B.2.1,B.2.2))/\BE true u A.2=[]/\B.1.3=true)/\(∀B:(Int×Int)×RQ,let b:=B.2.2;let e:=B.1.1;let f:=B.1.2;let n:=(B.2.1,b.1,b.2,k.2);Gm true u c e f n->A.1.5.succ.le 5/\let d:=oN (DX true u) 1;let l:=A.1.5;let m:=(e,f);(l=0->rf (LX 1 d A (0,m,B.2.1,b.1,b.2))/\0=l/\Dj true u A.1 A.2 e f n)/\let a:=B.2.1;(l=1->let g:=Ef 1 (e-1) a.3 a.4 a.5 a.6 a.7 a.8 a.9 a.10;rf (LX 2 d A (1,m,g,b.1,b.2))/\1=l/\Dj true u A.1 A.2 e f (g,b.1,b.2,k.2))/\(l=2->let h:=Ef 3 (e+1) a.3 a.4 a.5 a.6 a.7 a.8 a.9 a.10;rf (LX 2 d A (2,m,h,b.1,b.2))/\2=l/\Dj true u A.1 A.2 e f (h,b.1,b.2,k.2))/\(l=3->let i:=Ef 2 (f-1) a.3 a.4 a.5 a.6 a.7 a.8 a.9 a.10;rf (LX 2 d A (3,m,i,b.1,b.2))/\3=l/\Dj true u A.1 A.2 e f (i,b.1,b.2,k.2))/\(l=4->let j:=Ef 4 (f+1) a.3 a.4 a.5 a.6 a.7 a.8 a.9 a.10;rf (LX 2 d A (4,m,j,b.1,b.2))/\4=l/\Dj true u A.1 A.2 e f (j,b.1,b.2,k.2))/\True)/\True:Prop)
def Vf:XI false=AP Zn 200 Am (DX true false):=∅
def Vg:XI true=AP Zn 200 Am (DX true true):=∅
def Od:Is (AP Zn 200 Am (DX true false))/\Is (AP Zn 200 Am (DX true true)):=by
 show⟨AQ Vf ?_,AQ Vg ?_⟩<;>
 (intro A hp
  dsimp only;show⟨rfl,EK rfl hp.2,λB h1=>⟨rfl,Pq rfl h1.1,h1.2⟩,λB h1=>⟨hp.1.g,λa=>⟨rfl,a.symm,ft rfl a h1⟩,λa=>⟨rfl,a.symm,KV rfl a h1 rfl rfl⟩,λa=>⟨rfl,a.symm,KV rfl a h1 rfl rfl⟩,λa=>⟨rfl,a.symm,KV rfl a h1 rfl rfl⟩,λa=>⟨rfl,a.symm,KV rfl a h1 rfl rfl⟩,trv⟩,trv⟩)
theorem ib:Is (AP Zn 200 Am (DX true false)):=Od.1
theorem ic:Is (AP Zn 200 Am (DX true true)):=Od.2
theorem mH:Is (AP ZT20 40 Hy Mi):=AQ (p:=∀A:Int×Int,(Sm A.1/\Sm A.2)->small A.1/\small A.2/\JoinOk "" [(Di A.1)," ",(Di A.2)]=true/\let a:=Ki A.1 A.2;rf (LX 0 (oN Mi 0) A a)/\a=a) ∅ λA hp=>by
 dsimp only;show⟨Sm.small hp.1,Sm.small hp.2,lM hp.1 hp.2,rfl,rfl⟩
theorem mI:Is (AP (ZR false) 240 IQ (JC false)):=AQ (p:=∀C:FS,EL false C->let j:=QO 0 0 0;let f0:=Gn C.1 C.2 C.3 C.4 C.5 C.6 C.t0 j;rf (LA (HG false) f0)/\EJ false f0/\(∀H,H=((Ef 0 0 false false 0 0 0 0 [] []),(CS (-1) false [(C.1,C.2)] [(C.3,C.4)] [(C.1,C.2)] [(C.3,C.4)] [] [] false false),(Ee true (-1) true false true false false false),(H0 (kT C.t0) C.t0.c 0 0))->let g1:=(f0,H.1,H.2.1,H.2.2.1,(H0 H.2.2.2.1 H.2.2.2.2 0 0));let R:=s6 false;rf (LP R g1)/\∀E,E=g1->let b1:=E.1.5;(E.1.5.succ.le 5/\(b1=0->rf (LM 1 R E (0,false))/\0=b1/\false=BW b1)/\(b1=1->rf (LM 1 R E (1,true))/\1=b1/\true=BW b1)/\(b1=2->rf (LM 1 R E (2,true))/\2=b1/\true=BW b1)/\(b1=3->rf (LM 1 R E (3,true))/\3=b1/\true=BW b1)/\(b1=4->rf (LM 1 R E (4,true))/\4=b1/\true=BW b1)/\True)/\∀I:Nat×Bool,(I.1=b1/\I.2=BW b1)->let n2:=VD false;let j3:=E.2.2;let e0:=(I.2,(Gn E.1.1 E.1.2 E.1.3 E.1.4 I.1 E.1.6 E.1.t0 j),E.2.1,j3.1,j3.2.1,(H0 j3.2.2.1 j3.2.2.2 0 0));rf (LP n2 e0)/\∀G,G=e0->let c1:=G.2.1;(let d3:=LM 0 n2 G (0,());AF (G.1) (λ_=>rf d3/\0=DD G.1 c1.6) λ_=>AF (Az c1.6) (λ_=>rf d3/\0=DD G.1 c1.6) λ_=>rf (LM 0 n2 G (Bg c1.6,()))/\Bg c1.6=DD G.1 c1.6)/\∀J:Int×Unit,J.1=DD G.1 c1.6->let i1:=fw false;let Y:=G.2.2;let y:=((G.1,J.1),(Gn c1.1 c1.2 c1.3 c1.4 c1.5 c1.6 c1.t0 j),Y.1,Y.2.1,Y.2.2.1,(H0 Y.2.2.2.1 Y.2.2.2.2 0 0));rf (LP i1 y)/\∀F,F=y->let h0:=BE false false F.2.2;let l0:=F.2.1;(let z:=Pu false;let Z:=F.2.2;let u:=((F.1.1,F.1.2),(Gn l0.1 l0.2 l0.3 l0.4 l0.5 l0.6 l0.t0 j),(Z.1,Z.2.1,Z.2.2.1,(H0 Z.2.2.2.1 Z.2.2.2.2 0 0)),[]);rf (LV z false u)/\∀D,D=u->AN false false D D/\(∀B:(Bool×Int)×FS×QS×List El,AN false false D B->let h:=B.2.1;let l:=B.2.2;let a:=H0 l.1.2.2.2.1 l.1.2.2.2.2 0 0;let m:=Gn h.1 h.2 h.3 h.4 h.5 0 h.t0 j;let s:=(l.1.1,l.1.2.1,l.1.2.2.1,a);let S:=BE false false l.1;let n0:=List.map (Ch Ty.pair) l.2;let e1:=LA (DX false false) (m,l.1.1,l.1.2.1,l.1.2.2.1,a);let T:=(B.1.1,B.1.2);AF (B.1.2==0) (λ_=>rf e1/\(EJ false m/\AAK false false s)/\(∀A:PS×SS×ES,(BE false false s=[]/\A.1.3=true)->rf (LM 0 i1 F (l.2,A.1.3))/\(BK l.2,A.1.3)=BJ l0.5 l0.6 h0)/\(∀A:Nat×(Int×Int)×RQ,let o:=(A.2.2.1,A.2.2.2.1,A.2.2.2.2,a);let e3:=A.2.1;(A.1=h.5/\Dj false false m s e3.1 e3.2 o)->let l1:=Ed false [] e3.1 e3.2;let c2:=Gn h.1 h.2 h.3 h.4 A.1 h.6 h.t0 j;let d:=(T,c2,o,l.2++[l1]);let j2:=BE false true o;let k3:=LV z true d;AF (Az h.6) (λ_=>L1 n0/\Nat.le 1 1000/\rf k3/\AN false true D d/\j2.length.succ.le S.length) λ_=>AF (!B.1.1) (λ_=>L1 n0/\Nat.le 1 1000/\rf k3/\AN false true D d/\j2.length.succ.le S.length) λ_=>let a0:=(T,c2,o,[l1]);rf (LV z true a0)/\AN false true D a0/\j2.length.succ.le S.length)/\True) λ_=>L1 B.2.2.2/\AF (decide (Int.ofNat B.2.2.2.length<B.1.2)) (λ_=>rf e1/\(EJ false m/\AAK false false s)/\(∀A:PS×SS×ES,(BE false false s=[]/\A.1.3=true)->rf (LM 0 i1 F (l.2,A.1.3))/\(BK l.2,A.1.3)=BJ l0.5 l0.6 h0)/\(∀A:Nat×(Int×Int)×RQ,let p:=(A.2.2.1,A.2.2.2.1,A.2.2.2.2,a);let f3:=A.2.1;(A.1=h.5/\Dj false false m s f3.1 f3.2 p)->let m1:=Ed false [] f3.1 f3.2;let d2:=Gn h.1 h.2 h.3 h.4 A.1 h.6 h.t0 j;let e:=(T,d2,p,l.2++[m1]);let k2:=BE false true p;let l3:=LV z true e;AF (Az h.6) (λ_=>L1 n0/\Nat.le 1 1000/\rf l3/\AN false true D e/\k2.length.succ.le S.length) λ_=>AF (!B.1.1) (λ_=>L1 n0/\Nat.le 1 1000/\rf l3/\AN false true D e/\k2.length.succ.le S.length) λ_=>let b0:=(T,d2,p,[m1]);rf (LV z true b0)/\AN false true D b0/\k2.length.succ.le S.length)/\True) λ_=>False)/\∀B:(Bool×Int)×FS×QS×List El,AN false true D B->let i:=B.2.1;let k:=B.2.2;let b:=H0 k.1.2.2.2.1 k.1.2.2.2.2 0 0;let n:=Gn i.1 i.2 i.3 i.4 i.5 0 i.t0 j;let t:=(k.1.1,k.1.2.1,k.1.2.2.1,b);let U:=BE false true k.1;let a1:=List.map (Ch Ty.pair) k.2;let f1:=LA (DX false true) (n,k.1.1,k.1.2.1,k.1.2.2.1,b);let i2:=(B.1.1,B.1.2);AF (B.1.2==0) (λ_=>rf f1/\(EJ false n/\AAK false true t)/\(∀A:PS×SS×ES,(BE false true t=[]/\A.1.3=true)->rf (LM 0 i1 F (k.2,A.1.3))/\(BK k.2,A.1.3)=BJ l0.5 l0.6 h0)/\(∀A:Nat×(Int×Int)×RQ,let q:=(A.2.2.1,A.2.2.2.1,A.2.2.2.2,b);let g3:=A.2.1;(A.1=i.5/\Dj false true n t g3.1 g3.2 q)->let n1:=Ed false [] g3.1 g3.2;let e2:=Gn i.1 i.2 i.3 i.4 A.1 i.6 i.t0 j;let f:=(i2,e2,q,k.2++[n1]);let l2:=BE false true q;let m3:=LV z true f;AF (Az i.6) (λ_=>L1 a1/\Nat.le 1 1000/\rf m3/\AN false true D f/\l2.length.succ.le U.length) λ_=>AF (!B.1.1) (λ_=>L1 a1/\Nat.le 1 1000/\rf m3/\AN false true D f/\l2.length.succ.le U.length) λ_=>let c0:=(i2,e2,q,[n1]);rf (LV z true c0)/\AN false true D c0/\l2.length.succ.le U.length)/\True) λ_=>L1 B.2.2.2/\AF (decide (Int.ofNat B.2.2.2.length<B.1.2)) (λ_=>rf f1/\(EJ false n/\AAK false true t)/\(∀A:PS×SS×ES,(BE false true t=[]/\A.1.3=true)->rf (LM 0 i1 F (k.2,A.1.3))/\(BK k.2,A.1.3)=BJ l0.5 l0.6 h0)/\(∀A:Nat×(Int×Int)×RQ,let r:=(A.2.2.1,A.2.2.2.1,A.2.2.2.2,b);let h3:=A.2.1;(A.1=i.5/\Dj false true n t h3.1 h3.2 r)->let a2:=Ed false [] h3.1 h3.2;let f2:=Gn i.1 i.2 i.3 i.4 A.1 i.6 i.t0 j;let g:=(i2,f2,r,k.2++[a2]);let m2:=BE false true r;let n3:=LV z true g;AF (Az i.6) (λ_=>L1 a1/\Nat.le 1 1000/\rf n3/\AN false true D g/\m2.length.succ.le U.length) λ_=>AF (!B.1.1) (λ_=>L1 a1/\Nat.le 1 1000/\rf n3/\AN false true D g/\m2.length.succ.le U.length) λ_=>let d0:=(i2,f2,r,[a2]);rf (LV z true d0)/\AN false true D d0/\m2.length.succ.le U.length)/\True) λ_=>rf (LM 0 i1 F (k.2,k.1.1.3))/\(BK k.2,k.1.1.3)=BJ l0.5 l0.6 h0)/\∀D:List El×Bool,(BK D.1,D.2)=BJ l0.5 l0.6 h0->let i3:=(D.2,D.1,[],0);rf (LV (HH false) false i3)/\∀B,B=i3->Mj B B/\Ut (∀A:Bool×List El×List El×Nat,Mj B A->let d1:=A.2.2;(d1.2<A.2.1.length->let g0:=A.2.1.getD d1.2 BY;rf (LA Mi (g0.v,g0.w))/\(Sm g0.v/\Sm g0.w)/\(∀K,K=(Ki (g0.v) (g0.w))->L1 A.2.2.1/\let k0:=(A.1,A.2.1,d1.1++[(El.mk false [] 0 0 K),(El.mk false [] 0 0 "----------")],d1.2.succ);rf (LV (HH false) true k0)/\Mj B k0/\(A.2.1.length-d1.2.succ).succ.le (A.2.1.length-d1.2))/\True)/\(A.2.1.length<=d1.2->let m0:=BJ C.5 C.6 (B7 false C);let j1:=oN (JC false) 0;let a3:=(λx=>x.5);AF (A.1) (λ_=>AF (!A.2.1.isEmpty) (λ_=>L1 A.2.2.1/\let g2:=d1.1++[(El.mk false [] 0 0 "==========")];rf (LX 0 j1 C g2)/\List.map a3 g2=Dm m0) λ_=>L1 A.2.2.1/\let h1:=d1.1++[(El.mk false [] 0 0 "=====UNSATISFIABLE=====")];rf (LX 0 j1 C h1)/\List.map a3 h1=Dm m0) λ_=>AF (A.2.1.isEmpty) (λ_=>L1 A.2.2.1/\let k1:=d1.1++[(El.mk false [] 0 0 "=====UNKNOWN=====")];rf (LX 0 j1 C k1)/\List.map a3 k1=Dm m0) λ_=>rf (LX 0 j1 C d1.1)/\List.map a3 d1.1=Dm m0)))/\True) ∅ λC hp=>by
 dsimp only;show⟨rfl,CQ hp.ok rfl hp.ok.o,λH h1=>have A1:=J2.first hp h1;⟨rfl,λE T=>have V:=J2.eq T (J2.ch A1 (CQ A1.ok rfl A1.ok.o) rfl rfl (AU A1.pre.vs));⟨⟨V.ok.g,λh3=>⟨rfl,h3.symm,(congrArg BW h3).symm⟩,λh3=>⟨rfl,h3.symm,(congrArg BW h3).symm⟩,λh3=>⟨rfl,h3.symm,(congrArg BW h3).symm⟩,λh3=>⟨rfl,h3.symm,(congrArg BW h3).symm⟩,λh3=>⟨rfl,h3.symm,(congrArg BW h3).symm⟩,trv⟩,λI h3=>⟨rfl,(λG h4=>have A4:=J2.eq (congrArg Prod.snd h4) (J2.ch V (CQ V.ok h3.1 V.ok.o) h3.1 rfl (AU V.pre.vs));have G4:G.1=BW C.g:=(congrArg Prod.fst h4).trans (h3.2.trans (congrArg BW V.g));⟨AB (λW=>⟨rfl,gE W⟩) λW=>(AB (λQ=>⟨rfl,gF W Q⟩) λQ=>⟨rfl,gG W Q⟩),(λJ W=>have M5:J.1=DD (BW C.g) C.o:=W.trans (by rw[G4,show G.2.1.o=C.o from A4.o]);⟨rfl,(λF Q=>have A6:VE false C F.1 F.2.1 F.2.2:=⟨J2.eq (congrArg Prod.snd Q) (J2.ch A4 (CQ A4.ok rfl A4.ok.o) rfl rfl (AU A4.pre.vs)),(congrArg (λz=>z.1.1) Q).trans G4,(congrArg (λz=>z.1.2) Q).trans M5⟩;⟨⟨rfl,(λD X=>have M:VE false C D.1 D.2.1 D.2.2.1:=⟨J2.eq (x:=(D.2.1,D.2.2.1)) (congrArg (λz:RP=>(z.2.1,z.2.2.1)) X) (J2.ch A6.toJ2 (CQ A6.toJ2.ok rfl A6.toJ2.ok.o) rfl rfl (AU A6.toJ2.pre.vs)),(congrArg (λz:RP=>z.1.1) X).trans A6.hg,(congrArg (λz:RP=>z.1.2) X).trans A6.m⟩;have N7:D.2.2.2=[]:=congrArg (λz:RP=>z.2.2.2) X;⟨VE.inv M N7,λB c=>(AB (λN=>⟨rfl,⟨CQ c.ok rfl ∅,EK (p:=B.2.2.1) (AU c.pre.vs) c.pre⟩,λA v=>⟨rfl,FI A6 M c (AU c.pre.vs) v (.inl N)⟩,λA v=>(AB (λw=>⟨DI (AN.flen M c),DF rfl,rfl,AN.add M c (AU c.pre.vs) v.2 rfl v.1 rfl (CQ c.ok v.1 c.ok.o) (.inl w) (.inl N),AN.meas M c (AU c.pre.vs) v.2 rfl⟩) λw=>(AB (λL=>⟨DI (AN.flen M c),DF rfl,rfl,AN.add M c (AU c.pre.vs) v.2 rfl v.1 rfl (CQ c.ok v.1 c.ok.o) (.inr (BG L)) (.inl N),AN.meas M c (AU c.pre.vs) v.2 rfl⟩) λL=>⟨rfl,AN.new M c (AU c.pre.vs) v.2 rfl v.1 rfl (CQ c.ok v.1 c.ok.o) w (A3 L),AN.meas M c (AU c.pre.vs) v.2 rfl⟩)),trv⟩) λN=>⟨Be (AN.flen M c),AB (λv=>⟨rfl,⟨CQ c.ok rfl ∅,EK (p:=B.2.2.1) (AU c.pre.vs) c.pre⟩,λA w=>⟨rfl,FI A6 M c (AU c.pre.vs) w (.inr v)⟩,λA w=>(AB (λL=>⟨DI (AN.flen M c),DF rfl,rfl,AN.add M c (AU c.pre.vs) w.2 rfl w.1 rfl (CQ c.ok w.1 c.ok.o) (.inl L) (.inr v),AN.meas M c (AU c.pre.vs) w.2 rfl⟩) λL=>(AB (λO=>⟨DI (AN.flen M c),DF rfl,rfl,AN.add M c (AU c.pre.vs) w.2 rfl w.1 rfl (CQ c.ok w.1 c.ok.o) (.inr (BG O)) (.inr v),AN.meas M c (AU c.pre.vs) w.2 rfl⟩) λO=>⟨rfl,AN.new M c (AU c.pre.vs) w.2 rfl w.1 rfl (CQ c.ok w.1 c.ok.o) L (A3 O),AN.meas M c (AU c.pre.vs) w.2 rfl⟩)),trv⟩) λv=>OV A6 M c rfl N v⟩),λB c=>(AB (λN=>⟨rfl,⟨CQ c.ok rfl ∅,EK (p:=B.2.2.1) (AU c.pre.vs) c.pre⟩,λA v=>⟨rfl,FI A6 M c (AU c.pre.vs) v (.inl N)⟩,λA v=>(AB (λw=>⟨DI (AN.flen M c),DF rfl,rfl,AN.add M c (AU c.pre.vs) v.2 rfl v.1 rfl (CQ c.ok v.1 c.ok.o) (.inl w) (.inl N),AN.meas M c (AU c.pre.vs) v.2 rfl⟩) λw=>(AB (λL=>⟨DI (AN.flen M c),DF rfl,rfl,AN.add M c (AU c.pre.vs) v.2 rfl v.1 rfl (CQ c.ok v.1 c.ok.o) (.inr (BG L)) (.inl N),AN.meas M c (AU c.pre.vs) v.2 rfl⟩) λL=>⟨rfl,AN.new M c (AU c.pre.vs) v.2 rfl v.1 rfl (CQ c.ok v.1 c.ok.o) w (A3 L),AN.meas M c (AU c.pre.vs) v.2 rfl⟩)),trv⟩) λN=>⟨Be (AN.flen M c),AB (λv=>⟨rfl,⟨CQ c.ok rfl ∅,EK (p:=B.2.2.1) (AU c.pre.vs) c.pre⟩,λA w=>⟨rfl,FI A6 M c (AU c.pre.vs) w (.inr v)⟩,λA w=>(AB (λL=>⟨DI (AN.flen M c),DF rfl,rfl,AN.add M c (AU c.pre.vs) w.2 rfl w.1 rfl (CQ c.ok w.1 c.ok.o) (.inl L) (.inr v),AN.meas M c (AU c.pre.vs) w.2 rfl⟩) λL=>(AB (λO=>⟨DI (AN.flen M c),DF rfl,rfl,AN.add M c (AU c.pre.vs) w.2 rfl w.1 rfl (CQ c.ok w.1 c.ok.o) (.inr (BG O)) (.inr v),AN.meas M c (AU c.pre.vs) w.2 rfl⟩) λO=>⟨rfl,AN.new M c (AU c.pre.vs) w.2 rfl w.1 rfl (CQ c.ok w.1 c.ok.o) L (A3 O),AN.meas M c (AU c.pre.vs) w.2 rfl⟩)),trv⟩) λv=>⟨rfl,R8 A6 M c N v⟩⟩)⟩)⟩,λD X=>have P:=VE.tr A6 X;⟨rfl,λB c=>⟨OW c,Dd λA N=>⟨λv=>⟨rfl,⟨(Pz P c N v).1,(Pz P c N v).2⟩,λK w=>⟨FJ P c N,rfl,SA N v w,AAM _ _ v⟩,trv⟩,λv=>(AB (λw=>(AB (λL=>⟨FJ P c N,rfl,FK P c N v _ (gJ w (BG L))⟩) λL=>⟨FJ P c N,rfl,FK P c N v _ (gM w (A3 L))⟩)) λw=>(AB (λL=>⟨FJ P c N,rfl,FK P c N v _ (gN w L)⟩) λL=>⟨rfl,(congrArg (List.map _) (XW _)).symm.trans (FK P c N v [] (gP w L))⟩))⟩⟩⟩⟩)⟩)⟩)⟩⟩⟩,trv⟩
theorem mJ:Is (AP (ZR true) 240 IQ (JC true)):=AQ (p:=∀C:FS,EL true C->rf (LA (HG true) C)/\EJ true C/\(∀H,H=((Ef 0 0 false false 0 0 0 0 [] []),(CS (-1) false [(C.1,C.2)] [(C.3,C.4)] [(C.1,C.2)] [(C.3,C.4)] [] [] false false),(Ee true (-1) true true true true false false),(H0 (kT C.t0) C.t0.c (kT C.t1) C.t1.c))->let T:=s6 true;let f2:=(C,H.1,H.2.1,H.2.2.1,H.2.2.2);rf (LP T f2)/\∀E,E=f2->let O:=E.1.5;(E.1.5.succ.le 5/\(O=0->rf (LM 1 T E (0,false))/\0=O/\false=BW O)/\(O=1->rf (LM 1 T E (1,true))/\1=O/\true=BW O)/\(O=2->rf (LM 1 T E (2,true))/\2=O/\true=BW O)/\(O=3->rf (LM 1 T E (3,true))/\3=O/\true=BW O)/\(O=4->rf (LM 1 T E (4,true))/\4=O/\true=BW O)/\True)/\∀I:Nat×Bool,(I.1=O/\I.2=BW O)->let c0:=(I.2,(Gn E.1.1 E.1.2 E.1.3 E.1.4 I.1 E.1.6 E.1.t0 E.1.t1),E.2.1,E.2.2.1,E.2.2.2.1,E.2.2.2.2);let l2:=VD true;rf (LP l2 c0)/\∀G,G=c0->let R:=G.2.1.6;(let m2:=LM 0 l2 G (0,());AF (G.1) (λ_=>rf m2/\0=DD G.1 R) λ_=>AF (Az R) (λ_=>rf m2/\0=DD G.1 R) λ_=>rf (LM 0 l2 G (Bg R,()))/\Bg R=DD G.1 R)/\∀J:Int×Unit,J.1=DD G.1 R->let n1:=fw true;let Y:=G.2.2;let m0:=((G.1,J.1),G.2.1,Y.1,Y.2.1,Y.2.2.1,Y.2.2.2);rf (LP n1 m0)/\∀F,F=m0->let b0:=BE true false F.2.2;let a1:=F.2.1;(let r:=Pu true;let Z:=F.2.2;let i0:=((F.1.1,F.1.2),F.2.1,(Z.1,Z.2.1,Z.2.2.1,Z.2.2.2),[]);rf (LV r false i0)/\∀D,D=i0->AN true false D D/\(∀B:(Bool×Int)×FS×QS×List El,AN true false D B->let g:=B.2.1;let n:=Gn g.1 g.2 g.3 g.4 g.5 0 g.t0 g.t1;let n0:=B.2.2;let i:=n0.1.2;let q:=(n0.1.1,i.1,i.2.1,i.2.2);let z:=BE true false n0.1;let f0:=List.map (Ch Ty.pair) n0.2;let b1:=LA (DX true false) (n,n0.1.1,i.1,i.2.1,i.2.2);let c2:=(B.1.1,B.1.2);AF (B.1.2==0) (λ_=>rf b1/\(EJ true n/\AAK true false q)/\(∀A:PS×SS×ES,(BE true false q=[]/\A.1.3=true)->rf (LM 0 n1 F (n0.2,A.1.3))/\(BK n0.2,A.1.3)=BJ a1.5 a1.6 b0)/\(∀A:Nat×(Int×Int)×RQ,let l:=(A.2.2.1,A.2.2.2.1,A.2.2.2.2,i.2.2);let n2:=A.2.1;(A.1=g.5/\Dj true false n q n2.1 n2.2 l)->let e1:=Gn g.1 g.2 g.3 g.4 A.1 g.6 g.t0 g.t1;let j1:=Ed false [] n2.1 n2.2;let a:=(c2,e1,l,n0.2++[j1]);let g2:=BE true true l;let g3:=LV r true a;AF (Az g.6) (λ_=>L1 f0/\Nat.le 1 1000/\rf g3/\AN true true D a/\g2.length.succ.le z.length) λ_=>AF (!B.1.1) (λ_=>L1 f0/\Nat.le 1 1000/\rf g3/\AN true true D a/\g2.length.succ.le z.length) λ_=>let s:=(c2,e1,l,[j1]);rf (LV r true s)/\AN true true D s/\g2.length.succ.le z.length)/\True) λ_=>L1 B.2.2.2/\AF (decide (Int.ofNat B.2.2.2.length<B.1.2)) (λ_=>rf b1/\(EJ true n/\AAK true false q)/\(∀A:PS×SS×ES,(BE true false q=[]/\A.1.3=true)->rf (LM 0 n1 F (n0.2,A.1.3))/\(BK n0.2,A.1.3)=BJ a1.5 a1.6 b0)/\(∀A:Nat×(Int×Int)×RQ,let m:=(A.2.2.1,A.2.2.2.1,A.2.2.2.2,i.2.2);let a3:=A.2.1;(A.1=g.5/\Dj true false n q a3.1 a3.2 m)->let f1:=Gn g.1 g.2 g.3 g.4 A.1 g.6 g.t0 g.t1;let k1:=Ed false [] a3.1 a3.2;let b:=(c2,f1,m,n0.2++[k1]);let W:=BE true true m;let h3:=LV r true b;AF (Az g.6) (λ_=>L1 f0/\Nat.le 1 1000/\rf h3/\AN true true D b/\W.length.succ.le z.length) λ_=>AF (!B.1.1) (λ_=>L1 f0/\Nat.le 1 1000/\rf h3/\AN true true D b/\W.length.succ.le z.length) λ_=>let t:=(c2,f1,m,[k1]);rf (LV r true t)/\AN true true D t/\W.length.succ.le z.length)/\True) λ_=>False)/\∀B:(Bool×Int)×FS×QS×List El,AN true true D B->let f:=B.2.2;let h:=B.2.1;let o:=Gn h.1 h.2 h.3 h.4 h.5 0 h.t0 h.t1;let p:=(f.1.1,f.1.2.1,f.1.2.2.1,f.1.2.2.2);let e0:=BE true true f.1;let h0:=List.map (Ch Ty.pair) f.2;let k0:=LA (DX true true) (o,f.1.1,f.1.2.1,f.1.2.2.1,f.1.2.2.2);let d2:=(B.1.1,B.1.2);AF (B.1.2==0) (λ_=>rf k0/\(EJ true o/\AAK true true p)/\(∀A:PS×SS×ES,(BE true true p=[]/\A.1.3=true)->rf (LM 0 n1 F (f.2,A.1.3))/\(BK f.2,A.1.3)=BJ a1.5 a1.6 b0)/\(∀A:Nat×(Int×Int)×RQ,let j:=(A.2.2.1,A.2.2.2.1,A.2.2.2.2,f.1.2.2.2);let b3:=A.2.1;(A.1=h.5/\Dj true true o p b3.1 b3.2 j)->let g1:=Gn h.1 h.2 h.3 h.4 A.1 h.6 h.t0 h.t1;let l1:=Ed false [] b3.1 b3.2;let d:=(d2,g1,j,f.2++[l1]);let i2:=BE true true j;let i3:=LV r true d;AF (Az h.6) (λ_=>L1 h0/\Nat.le 1 1000/\rf i3/\AN true true D d/\i2.length.succ.le e0.length) λ_=>AF (!B.1.1) (λ_=>L1 h0/\Nat.le 1 1000/\rf i3/\AN true true D d/\i2.length.succ.le e0.length) λ_=>let u:=(d2,g1,j,[l1]);rf (LV r true u)/\AN true true D u/\i2.length.succ.le e0.length)/\True) λ_=>L1 B.2.2.2/\AF (decide (Int.ofNat B.2.2.2.length<B.1.2)) (λ_=>rf k0/\(EJ true o/\AAK true true p)/\(∀A:PS×SS×ES,(BE true true p=[]/\A.1.3=true)->rf (LM 0 n1 F (f.2,A.1.3))/\(BK f.2,A.1.3)=BJ a1.5 a1.6 b0)/\(∀A:Nat×(Int×Int)×RQ,let k:=(A.2.2.1,A.2.2.2.1,A.2.2.2.2,f.1.2.2.2);let c3:=A.2.1;(A.1=h.5/\Dj true true o p c3.1 c3.2 k)->let h1:=Gn h.1 h.2 h.3 h.4 A.1 h.6 h.t0 h.t1;let m1:=Ed false [] c3.1 c3.2;let e:=(d2,h1,k,f.2++[m1]);let j2:=BE true true k;let j3:=LV r true e;AF (Az h.6) (λ_=>L1 h0/\Nat.le 1 1000/\rf j3/\AN true true D e/\j2.length.succ.le e0.length) λ_=>AF (!B.1.1) (λ_=>L1 h0/\Nat.le 1 1000/\rf j3/\AN true true D e/\j2.length.succ.le e0.length) λ_=>let y:=(d2,h1,k,[m1]);rf (LV r true y)/\AN true true D y/\j2.length.succ.le e0.length)/\True) λ_=>rf (LM 0 n1 F (f.2,f.1.1.3))/\(BK f.2,f.1.1.3)=BJ a1.5 a1.6 b0)/\∀D:List El×Bool,(BK D.1,D.2)=BJ a1.5 a1.6 b0->let d3:=(D.2,D.1,[],0);rf (LV (HH true) false d3)/\∀B,B=d3->Mj B B/\Ut (∀A:Bool×List El×List El×Nat,Mj B A->let l0:=A.2.2;(l0.2<A.2.1.length->let a0:=A.2.1.getD l0.2 BY;rf (LA Mi (a0.v,a0.w))/\(Sm a0.v/\Sm a0.w)/\(∀K,K=(Ki (a0.v) (a0.w))->L1 A.2.2.1/\let d0:=(A.1,A.2.1,l0.1++[(El.mk false [] 0 0 K),(El.mk false [] 0 0 "----------")],l0.2.succ);rf (LV (HH true) true d0)/\Mj B d0/\(A.2.1.length-l0.2.succ).succ.le (A.2.1.length-l0.2))/\True)/\(A.2.1.length<=l0.2->let g0:=BJ C.5 C.6 (B7 true C);let i1:=oN (JC true) 0;let k2:=(λx=>x.5);AF (A.1) (λ_=>AF (!A.2.1.isEmpty) (λ_=>L1 A.2.2.1/\let b2:=l0.1++[(El.mk false [] 0 0 "==========")];rf (LX 0 i1 C b2)/\List.map k2 b2=Dm g0) λ_=>L1 A.2.2.1/\let c1:=l0.1++[(El.mk false [] 0 0 "=====UNSATISFIABLE=====")];rf (LX 0 i1 C c1)/\List.map k2 c1=Dm g0) λ_=>AF (A.2.1.isEmpty) (λ_=>L1 A.2.2.1/\let d1:=l0.1++[(El.mk false [] 0 0 "=====UNKNOWN=====")];rf (LX 0 i1 C d1)/\List.map k2 d1=Dm g0) λ_=>rf (LX 0 i1 C l0.1)/\List.map k2 l0.1=Dm g0)))/\True) ∅ λC hp=>by
 dsimp only;show⟨rfl,CP hp.ok rfl hp.ok.o,λH h1=>have A1:=J2.first hp h1;⟨rfl,λE W=>have X:=J2.eq W (J2.ch A1 (CP A1.ok rfl A1.ok.o) rfl rfl rfl);⟨⟨X.ok.g,λh3=>⟨rfl,h3.symm,(congrArg BW h3).symm⟩,λh3=>⟨rfl,h3.symm,(congrArg BW h3).symm⟩,λh3=>⟨rfl,h3.symm,(congrArg BW h3).symm⟩,λh3=>⟨rfl,h3.symm,(congrArg BW h3).symm⟩,λh3=>⟨rfl,h3.symm,(congrArg BW h3).symm⟩,trv⟩,λI h3=>⟨rfl,(λG h4=>have A4:=J2.eq (congrArg Prod.snd h4) (J2.ch X (CP X.ok h3.1 X.ok.o) h3.1 rfl rfl);have G4:G.1=BW C.g:=(congrArg Prod.fst h4).trans (h3.2.trans (congrArg BW X.g));⟨AB (λU=>⟨rfl,gE U⟩) λU=>(AB (λS=>⟨rfl,gF U S⟩) λS=>⟨rfl,gG U S⟩),(λJ U=>have M5:J.1=DD (BW C.g) C.o:=U.trans (by rw[G4,show G.2.1.o=C.o from A4.o]);⟨rfl,(λF S=>have A6:VE true C F.1 F.2.1 F.2.2:=⟨J2.eq (congrArg Prod.snd S) (J2.ch A4 (CP A4.ok rfl A4.ok.o) rfl rfl rfl),(congrArg (λz=>z.1.1) S).trans G4,(congrArg (λz=>z.1.2) S).trans M5⟩;⟨⟨rfl,(λD V=>have M:VE true C D.1 D.2.1 D.2.2.1:=⟨J2.eq (x:=(D.2.1,D.2.2.1)) (congrArg (λz:RP=>(z.2.1,z.2.2.1)) V) (J2.ch A6.toJ2 (CP A6.toJ2.ok rfl A6.toJ2.ok.o) rfl rfl rfl),(congrArg (λz:RP=>z.1.1) V).trans A6.hg,(congrArg (λz:RP=>z.1.2) V).trans A6.m⟩;have N7:D.2.2.2=[]:=congrArg (λz:RP=>z.2.2.2) V;⟨VE.inv M N7,λB w=>(AB (λN=>⟨rfl,⟨CP w.ok rfl ∅,EK (p:=B.2.2.1) rfl w.pre⟩,λA c=>⟨rfl,FI A6 M w rfl c (.inl N)⟩,λA c=>(AB (λv=>⟨DI (AN.flen M w),DF rfl,rfl,AN.add M w rfl c.2 rfl c.1 rfl (CP w.ok c.1 w.ok.o) (.inl v) (.inl N),AN.meas M w rfl c.2 rfl⟩) λv=>(AB (λL=>⟨DI (AN.flen M w),DF rfl,rfl,AN.add M w rfl c.2 rfl c.1 rfl (CP w.ok c.1 w.ok.o) (.inr (BG L)) (.inl N),AN.meas M w rfl c.2 rfl⟩) λL=>⟨rfl,AN.new M w rfl c.2 rfl c.1 rfl (CP w.ok c.1 w.ok.o) v (A3 L),AN.meas M w rfl c.2 rfl⟩)),trv⟩) λN=>⟨Be (AN.flen M w),AB (λc=>⟨rfl,⟨CP w.ok rfl ∅,EK (p:=B.2.2.1) rfl w.pre⟩,λA v=>⟨rfl,FI A6 M w rfl v (.inr c)⟩,λA v=>(AB (λL=>⟨DI (AN.flen M w),DF rfl,rfl,AN.add M w rfl v.2 rfl v.1 rfl (CP w.ok v.1 w.ok.o) (.inl L) (.inr c),AN.meas M w rfl v.2 rfl⟩) λL=>(AB (λP=>⟨DI (AN.flen M w),DF rfl,rfl,AN.add M w rfl v.2 rfl v.1 rfl (CP w.ok v.1 w.ok.o) (.inr (BG P)) (.inr c),AN.meas M w rfl v.2 rfl⟩) λP=>⟨rfl,AN.new M w rfl v.2 rfl v.1 rfl (CP w.ok v.1 w.ok.o) L (A3 P),AN.meas M w rfl v.2 rfl⟩)),trv⟩) λc=>OV A6 M w rfl N c⟩),λB w=>(AB (λN=>⟨rfl,⟨CP w.ok rfl ∅,EK (p:=B.2.2.1) rfl w.pre⟩,λA c=>⟨rfl,FI A6 M w rfl c (.inl N)⟩,λA c=>(AB (λv=>⟨DI (AN.flen M w),DF rfl,rfl,AN.add M w rfl c.2 rfl c.1 rfl (CP w.ok c.1 w.ok.o) (.inl v) (.inl N),AN.meas M w rfl c.2 rfl⟩) λv=>(AB (λL=>⟨DI (AN.flen M w),DF rfl,rfl,AN.add M w rfl c.2 rfl c.1 rfl (CP w.ok c.1 w.ok.o) (.inr (BG L)) (.inl N),AN.meas M w rfl c.2 rfl⟩) λL=>⟨rfl,AN.new M w rfl c.2 rfl c.1 rfl (CP w.ok c.1 w.ok.o) v (A3 L),AN.meas M w rfl c.2 rfl⟩)),trv⟩) λN=>⟨Be (AN.flen M w),AB (λc=>⟨rfl,⟨CP w.ok rfl ∅,EK (p:=B.2.2.1) rfl w.pre⟩,λA v=>⟨rfl,FI A6 M w rfl v (.inr c)⟩,λA v=>(AB (λL=>⟨DI (AN.flen M w),DF rfl,rfl,AN.add M w rfl v.2 rfl v.1 rfl (CP w.ok v.1 w.ok.o) (.inl L) (.inr c),AN.meas M w rfl v.2 rfl⟩) λL=>(AB (λP=>⟨DI (AN.flen M w),DF rfl,rfl,AN.add M w rfl v.2 rfl v.1 rfl (CP w.ok v.1 w.ok.o) (.inr (BG P)) (.inr c),AN.meas M w rfl v.2 rfl⟩) λP=>⟨rfl,AN.new M w rfl v.2 rfl v.1 rfl (CP w.ok v.1 w.ok.o) L (A3 P),AN.meas M w rfl v.2 rfl⟩)),trv⟩) λc=>⟨rfl,R8 A6 M w N c⟩⟩)⟩)⟩,λD V=>have Q:=VE.tr A6 V;⟨rfl,λB w=>⟨OW w,Dd λA N=>⟨λc=>⟨rfl,⟨(Pz Q w N c).1,(Pz Q w N c).2⟩,λK v=>⟨FJ Q w N,rfl,SA N c v,AAM _ _ c⟩,trv⟩,λc=>(AB (λv=>(AB (λL=>⟨FJ Q w N,rfl,FK Q w N c _ (gJ v (BG L))⟩) λL=>⟨FJ Q w N,rfl,FK Q w N c _ (gM v (A3 L))⟩)) λv=>(AB (λL=>⟨FJ Q w N,rfl,FK Q w N c _ (gN v L)⟩) λL=>⟨rfl,(congrArg (List.map _) (XW _)).symm.trans (FK Q w N c [] (gP v L))⟩))⟩⟩⟩⟩)⟩)⟩)⟩⟩⟩,trv⟩
theorem tm:Is (AP W5 30 Jq KW):=AQ (p:=∀A:DP×Int,(CE A.1/\0<A.2)->L1 A.1.1/\let d:=A.1.2;let e:=oN KW 0;AF (decide (d<Int.ofNat A.1.1.length)) (λZ=>L1 A.1.1/\AF (decide (d=-1)) (λZ=>A.1.1≠[]/\(A.2=0->False)/\let c:=A.1.1.getLastD BY;rf (LX 0 e A (c.v.fmod A.2))/\(c.v.fmod A.2-0).NonNeg/\(A.2-(c.v.fmod A.2+1)).NonNeg) λZ=>(d-0).NonNeg/\A.1.2.toNat.succ.le A.1.1.length/\(A.2=0->False)/\let b:=A.1.1.getD A.1.2.toNat BY;rf (LX 0 e A (b.v.fmod A.2))/\(b.v.fmod A.2-0).NonNeg/\(A.2-(b.v.fmod A.2+1)).NonNeg) λZ=>small 7/\small (7 * d)/\small 3/\L1 A.1.1/\((103:Int)=0->False)/\(A.2=0->False)/\let a:=(7 * d * d+3 * d+Int.ofNat A.1.1.length).fmod 103;rf (LX 0 e A (a.fmod A.2))/\(a.fmod A.2-0).NonNeg/\(A.2-(a.fmod A.2+1)).NonNeg) ∅ λA hp=>by
 dsimp only;show⟨Be hp.1.len,AB (λh1=>⟨Be hp.1.len,AB (λf=>⟨λh3=>(K6 hp.1 f).elim,λh3=>(K6 hp.1 f).elim,rfl,(K6 hp.1 f).elim,(K6 hp.1 f).elim⟩) λf=>⟨hp.1.lo,s9 hp.1 h1,λh3=>absurd hp.2 (by rw[h3];decide),rfl,Int.fmod_nonneg_of_pos _ hp.2,Int.fmod_lt_of_pos _ hp.2⟩⟩) λh1=>⟨DL,Yv hp.1,DL,Be hp.1.len,λf=>absurd f ∅,λf=>absurd hp.2 (by rw[f];decide),rfl,Int.fmod_nonneg_of_pos _ hp.2,Int.fmod_lt_of_pos _ hp.2⟩⟩
theorem mK:Is (AP ZL1 45 MN J3):=AQ (p:=∀A:List El×Int,(CE A/\A.2<=40)->rf (LA (P0 true) ((A.1,A.2),3))/\(CE (A.1,A.2)/\(3:Int)=3/\(Nat.succ 0).le 3)/\(∀B:Nat,(Nat.succ B).le 3->(Nat.succ B).le 3/\rf (LA (P0 true) ((A.1,A.2+1),3))/\(CE (A.1,A.2+1)/\(3:Int)=3/\(Nat.succ 0).le 3)/\(∀C:Nat,(Nat.succ C).le 3->(Nat.succ C).le 3/\let a:=(A.1,A.2+1+1);rf (LA (P0 false) (a,6))/\(CE a/\(5:Int).NonNeg)/\(∀D:Int,(0<=D/\D<6)->rf (LX 0 (oN J3 0) A (B,C,D))/\Ia (B,C,D))/\True)/\True)/\True) ∅ λA hp=>by
 dsimp only;show⟨rfl,⟨hp.1,rfl,DF rfl⟩,λB h1=>⟨h1,rfl,⟨CE.up hp.1 1 ∅ (by have:=hp.2;omega),rfl,DF rfl⟩,λC b=>⟨b,rfl,⟨CE.up (s:=A.2+1) (CE.up hp.1 1 ∅ (by have:=hp.2;omega)) 1 ∅ (by have:=hp.2;omega),(by decide:(0:Int)<6)⟩,λD h3=>⟨rfl,⟨h1,b,h3.1,h3.2⟩⟩,trv⟩,trv⟩,trv⟩
theorem ZH:Is (AP W5 30 BI (Bb 1)):=AQ (p:=∀A:Int×Int×Int,(Sm A.2.1/\Sm A.2.2)->small 1/\small (-1)/\let a:=(1 * A.2.1+ -1 * A.2.2<=A.1);rf (LX 0 (oN (Bb 1) 0) A (decide a))/\decide a=AZ 1 A.1 A.2.1 A.2.2) ∅ λA hp=>by
 dsimp only;show⟨DL,DL,rfl,uR.mpr (by omega)⟩
abbrev SP (j)(u):=(∀A:Int×Int×Int,(Sm A.2.1/\Sm A.2.2)->small 1/\small j/\(let a:=(1 * A.2.1+j * A.2.2<=A.1);rf (LX 0 (oN (Bb u) 0) A (decide a))/\decide a=AZ u A.1 A.2.1 A.2.2):Prop)
def SQ:SP 1 0=AP W5 30 BI (Bb 0):=∅
def SR:SP 2 2=AP W5 30 BI (Bb 2):=∅
def Mw:Is (AP W5 30 BI (Bb 0))/\Is (AP W5 30 BI (Bb 2)):=by
 show⟨AQ SQ ?_,AQ SR ?_⟩<;>
 (intro A hp
  dsimp only;show⟨DL,DL,rfl,uR.mpr (by omega)⟩)
theorem ZI:Is (AP W5 30 BI (Bb 0)):=Mw.1
theorem ZJ:Is (AP W5 30 BI (Bb 2)):=Mw.2
theorem ZK:Is (AP W5 30 BI (Bb 3)):=AQ (p:=∀A:Int×Int×Int,(Sm A.2.1/\Sm A.2.2)->small 1/\small 1/\let a:=((1 * A.2.1+1 * A.2.2==A.1)==false);rf (LX 0 (oN (Bb 3) 0) A a)/\a=AZ 3 A.1 A.2.1 A.2.2) ∅ λA hp=>by
 dsimp only;show⟨DL,DL,rfl,P1 (by omega)⟩
theorem ZM:Is (AP W5 30 BI (Bb 4)):=AQ (p:=∀A:Int×Int×Int,(Sm A.2.1/\Sm A.2.2)->small 1/\small (-1)/\let a:=((1 * A.2.1+ -1 * A.2.2==A.1)==false);rf (LX 0 (oN (Bb 4) 0) A a)/\a=AZ 4 A.1 A.2.1 A.2.2) ∅ λA hp=>by
 dsimp only;show⟨DL,DL,rfl,P1 (by omega)⟩
theorem ZN:Is (AP W5 30 BI (Bb 5)):=AQ (p:=∀A:Int×Int×Int,(Sm A.2.1/\Sm A.2.2)->small 1/\small 2/\let a:=((1 * A.2.1+2 * A.2.2==A.1)==false);rf (LX 0 (oN (Bb 5) 0) A a)/\a=AZ 5 A.1 A.2.1 A.2.2) ∅ λA hp=>by
 dsimp only;show⟨DL,DL,rfl,P1 (by omega)⟩
theorem ZO:Is (AP W5 30 BI (Bb 6)):=AQ (p:=∀A:Int×Int×Int,(Sm A.2.1/\Sm A.2.2)->small 1/\small 1/\let a:=((1 * A.2.1+1 * A.2.2==A.1)==true);rf (LX 0 (oN (Bb 6) 0) A a)/\a=AZ 6 A.1 A.2.1 A.2.2) ∅ λA hp=>by
 dsimp only;show⟨DL,DL,rfl,P2 (by omega)⟩
theorem ZP:Is (AP W5 30 BI (Bb 7)):=AQ (p:=∀A:Int×Int×Int,(Sm A.2.1/\Sm A.2.2)->small 1/\small (-1)/\let a:=((1 * A.2.1+ -1 * A.2.2==A.1)==true);rf (LX 0 (oN (Bb 7) 0) A a)/\a=AZ 7 A.1 A.2.1 A.2.2) ∅ λA hp=>by
 dsimp only;show⟨DL,DL,rfl,P2 (by omega)⟩
theorem ZQ:Is (AP W5 30 BI (Bb 8)):=AQ (p:=∀A:Int×Int×Int,(Sm A.2.1/\Sm A.2.2)->small 1/\small 2/\let a:=((1 * A.2.1+2 * A.2.2==A.1)==true);rf (LX 0 (oN (Bb 8) 0) A a)/\a=AZ 8 A.1 A.2.1 A.2.2) ∅ λA hp=>by
 dsimp only;show⟨DL,DL,rfl,P2 (by omega)⟩
theorem tn:Is (AP ZL2 40 OD SD):=AQ (p:=∀C:List El×Nat×Nat,(C.1.length<=16/\C.2.1<5)->C.2.1.succ.le 5/\let f:=oN SD 0;let o:=BK C.1;let p:=C.2.1;let q:=C.2.2;(p=0->AF (Az q) (λZ=>rf (LX 0 f C (C.1,true))/\(BK C.1,true)=BJ p q o) λZ=>L1 C.1/\L1 C.1/\let m:=AV.mt [RD.r 3,RD.d (Dt.v (Value.bool (decide (Int.ofNat C.1.length<Bg q))))];let f1:=some (Bg q);rf (LX 0 f C (BH C.1 none f1,rMb m))/\(BK (BH C.1 none f1),rMb m)=BJ p q o)/\let g:=(q,C.1,[],0);let l:=some (-1);(p=1->let l0:=JF 1;rf (LV l0 false g)/\∀B,B=g->Dg 1 B B/\Ut (∀A:Nat×List El×List El×Nat,Dg 1 B A->let h:=A.2.2;(h.2<A.2.1.length->let s:=A.2.1.length-h.2.succ;let z:=A.2.1.length-h.2;let a0:=A.2.1.getD h.2 BY;let a:=(A.1,A.2.1,h.1++[(Ed false [] (a0.v) (a0.w))],h.2.succ);let g1:=LV l0 true a;AF (A.2.2.1.isEmpty) (λZ=>L1 A.2.2.1/\rf g1/\Dg 1 B a/\s.succ.le z) λZ=>L1 A.2.2.1/\h.1≠[]/\AF (decide (a0.v<(h.1.getLastD BY).v)) (λZ=>L1 A.2.2.1/\rf g1/\Dg 1 B a/\s.succ.le z) λZ=>let h0:=(A.1,A.2.1,h.1,h.2.succ);rf (LV l0 true h0)/\Dg 1 B h0/\s.succ.le z)/\(A.2.1.length<=h.2->AF (Az A.1) (λZ=>Ez (LX 0 f C (h.1,true)) [(1,Lf.n A.1)]=LX 0 f C (h.1,true)/\(BK h.1,true)=BJ p q o) λZ=>L1 A.2.2.1/\(let b1:=(BH h.1 l none,true);Ez (LX 0 f C b1) [(1,Lf.n A.1)]=LX 0 f C b1)/\(BK (BH h.1 l none),true)=BJ p q o)))/\(p=2->let m0:=JF 2;rf (LV m0 false g)/\∀B,B=g->Dg 2 B B/\Ut (∀A:Nat×List El×List El×Nat,Dg 2 B A->let i:=A.2.2;(i.2<A.2.1.length->let t:=A.2.1.length-i.2.succ;let b0:=A.2.1.length-i.2;let c0:=A.2.1.getD i.2 BY;let b:=(A.1,A.2.1,i.1++[(Ed false [] (c0.v) (c0.w))],i.2.succ);let h1:=LV m0 true b;AF (A.2.2.1.isEmpty) (λZ=>L1 A.2.2.1/\rf h1/\Dg 2 B b/\t.succ.le b0) λZ=>L1 A.2.2.1/\i.1≠[]/\AF (decide (c0.v>(i.1.getLastD BY).v)) (λZ=>L1 A.2.2.1/\rf h1/\Dg 2 B b/\t.succ.le b0) λZ=>let w:=(A.1,A.2.1,i.1,i.2.succ);rf (LV m0 true w)/\Dg 2 B w/\t.succ.le b0)/\(A.2.1.length<=i.2->AF (Az A.1) (λZ=>Ez (LX 0 f C (i.1,true)) [(1,Lf.n A.1)]=LX 0 f C (i.1,true)/\(BK i.1,true)=BJ p q o) λZ=>L1 A.2.2.1/\(let c1:=(BH i.1 l none,true);Ez (LX 0 f C c1) [(1,Lf.n A.1)]=LX 0 f C c1)/\(BK (BH i.1 l none),true)=BJ p q o)))/\(p=3->let n0:=JF 3;rf (LV n0 false g)/\∀B,B=g->Dg 3 B B/\Ut (∀A:Nat×List El×List El×Nat,Dg 3 B A->let j:=A.2.2;(j.2<A.2.1.length->let u:=A.2.1.length-j.2.succ;let d0:=A.2.1.length-j.2;let e0:=A.2.1.getD j.2 BY;let c:=(A.1,A.2.1,j.1++[(Ed false [] (e0.v) (e0.w))],j.2.succ);let i1:=LV n0 true c;AF (A.2.2.1.isEmpty) (λZ=>L1 A.2.2.1/\rf i1/\Dg 3 B c/\u.succ.le d0) λZ=>L1 A.2.2.1/\j.1≠[]/\AF (decide (e0.w<(j.1.getLastD BY).w)) (λZ=>L1 A.2.2.1/\rf i1/\Dg 3 B c/\u.succ.le d0) λZ=>let x:=(A.1,A.2.1,j.1,j.2.succ);rf (LV n0 true x)/\Dg 3 B x/\u.succ.le d0)/\(A.2.1.length<=j.2->AF (Az A.1) (λZ=>Ez (LX 0 f C (j.1,true)) [(1,Lf.n A.1)]=LX 0 f C (j.1,true)/\(BK j.1,true)=BJ p q o) λZ=>L1 A.2.2.1/\(let d1:=(BH j.1 l none,true);Ez (LX 0 f C d1) [(1,Lf.n A.1)]=LX 0 f C d1)/\(BK (BH j.1 l none),true)=BJ p q o)))/\(p=4->let a1:=JF 4;rf (LV a1 false g)/\∀B,B=g->Dg 4 B B/\Ut (∀A:Nat×List El×List El×Nat,Dg 4 B A->let k:=A.2.2;(k.2<A.2.1.length->let y:=A.2.1.length-k.2.succ;let f0:=A.2.1.length-k.2;let g0:=A.2.1.getD k.2 BY;let e:=(A.1,A.2.1,k.1++[(Ed false [] (g0.v) (g0.w))],k.2.succ);let D:=LV a1 true e;AF (A.2.2.1.isEmpty) (λZ=>L1 A.2.2.1/\rf D/\Dg 4 B e/\y.succ.le f0) λZ=>L1 A.2.2.1/\k.1≠[]/\AF (decide (g0.w>(k.1.getLastD BY).w)) (λZ=>L1 A.2.2.1/\rf D/\Dg 4 B e/\y.succ.le f0) λZ=>let k0:=(A.1,A.2.1,k.1,k.2.succ);rf (LV a1 true k0)/\Dg 4 B k0/\y.succ.le f0)/\(A.2.1.length<=k.2->AF (Az A.1) (λZ=>Ez (LX 0 f C (k.1,true)) [(1,Lf.n A.1)]=LX 0 f C (k.1,true)/\(BK k.1,true)=BJ p q o) λZ=>L1 A.2.2.1/\(let e1:=(BH k.1 l none,true);Ez (LX 0 f C e1) [(1,Lf.n A.1)]=LX 0 f C e1)/\(BK (BH k.1 l none),true)=BJ p q o)))/\True) ∅ λC hp=>by
 dsimp only;show⟨hp.2,λh1=>(AB (λr=>⟨rfl,lP h1 r⟩) λr=>⟨Be hp.1,Be hp.1,rfl,lQ h1 r⟩),λh1=>⟨rfl,λB r=>⟨Hd r hp.1,Dd (λA h3=>⟨λn=>(AB (λd=>⟨Be h3.flen,rfl,K7 h3 n d,AAM _ _ n⟩) λd=>⟨Be h3.flen,λv=>(by rw[v] at d;cases d),AB (λv=>⟨Be h3.flen,rfl,K8 h3 n d v,AAM _ _ n⟩) λv=>⟨rfl,JG h3 n d v,AAM _ _ n⟩⟩),λn=>(AB (λd=>⟨(by rw[IB r h3]<;>kernel_rfl),K9 r h3 n h1 rfl d⟩) λd=>⟨Be h3.flen,(by rw[IB r h3]<;>kernel_rfl),LB r h3 n h1 rfl d⟩)⟩)⟩⟩,λh1=>⟨rfl,λB r=>⟨Hd r hp.1,Dd (λA h3=>⟨λn=>(AB (λd=>⟨Be h3.flen,rfl,K7 h3 n d,AAM _ _ n⟩) λd=>⟨Be h3.flen,λv=>(by rw[v] at d;cases d),AB (λv=>⟨Be h3.flen,rfl,K8 h3 n d v,AAM _ _ n⟩) λv=>⟨rfl,JG h3 n d v,AAM _ _ n⟩⟩),λn=>(AB (λd=>⟨(by rw[IB r h3]<;>kernel_rfl),K9 r h3 n h1 rfl d⟩) λd=>⟨Be h3.flen,(by rw[IB r h3]<;>kernel_rfl),LB r h3 n h1 rfl d⟩)⟩)⟩⟩,λh1=>⟨rfl,λB r=>⟨Hd r hp.1,Dd (λA h3=>⟨λn=>(AB (λd=>⟨Be h3.flen,rfl,K7 h3 n d,AAM _ _ n⟩) λd=>⟨Be h3.flen,λv=>(by rw[v] at d;cases d),AB (λv=>⟨Be h3.flen,rfl,K8 h3 n d v,AAM _ _ n⟩) λv=>⟨rfl,JG h3 n d v,AAM _ _ n⟩⟩),λn=>(AB (λd=>⟨(by rw[IB r h3]<;>kernel_rfl),K9 r h3 n h1 rfl d⟩) λd=>⟨Be h3.flen,(by rw[IB r h3]<;>kernel_rfl),LB r h3 n h1 rfl d⟩)⟩)⟩⟩,λh1=>⟨rfl,λB r=>⟨Hd r hp.1,Dd (λA h3=>⟨λn=>(AB (λd=>⟨Be h3.flen,rfl,K7 h3 n d,AAM _ _ n⟩) λd=>⟨Be h3.flen,λv=>(by rw[v] at d;cases d),AB (λv=>⟨Be h3.flen,rfl,K8 h3 n d v,AAM _ _ n⟩) λv=>⟨rfl,JG h3 n d v,AAM _ _ n⟩⟩),λn=>(AB (λd=>⟨(by rw[IB r h3]<;>kernel_rfl),K9 r h3 n h1 rfl d⟩) λd=>⟨Be h3.flen,(by rw[IB r h3]<;>kernel_rfl),LB r h3 n h1 rfl d⟩)⟩)⟩⟩,trv⟩
theorem ie {x:Int}:∀ {n:Nat},n≠0->x+1+((n-1:Nat):Int)=x+n|0,h=>absurd rfl h|k+1,_=>by rw[Int.add_assoc,Int.add_comm 1];rfl
def ZS (P Q:Int->Bool)(K:Int->Int->Bool)(m l:List Int):(l.flatMap λa=>m.map λc=>(a,c)).filter (λp=>(P p.1&&Q p.2)&&K p.1 p.2)=(l.filter P).flatMap λa=>((m.filter Q).filter (K a)).map λc=>(a,c):=by
 induction l with
 |nil=>rfl
 |cons a l ih=>
  rw[List.flatMap_cons,List.filter_append,ih,List.filter_map,nB];cases h:P a with
  |true=>
   rw[if_pos rfl,List.flatMap_cons,List.filter_filter]
   congr 2
   show uP λc Z=>?_;change ((P a&&Q c)&&K a c)=_;rw[h,mu,Bool.and_comm]
  |false=>
   rw[if_neg ∅];have:m.filter ((λp:Int×Int=>(P p.1&&Q p.2)&&K p.1 p.2) ∘ λc=>(a,c))=[]:=by
    rw[pi];intro c _;change ¬(((P a&&Q c)&&K a c));rw[h];simp
   rw[this];rfl
def ZT:I4=([0,1,2,3]:List Int).flatMap λa=>([0,1,2,3]:List Int).map λc=>(a,c):=by rfl
theorem XJ {a c:Int}(h0:0<=a)(h1:a<=c)(b:c<=3):(DE a (c-a+1).toNat).map (·.v)=([0,1,2,3]:List Int).filter (mem [(a,c)]):=
 Mm (P:=λa c=>a<=c->(DE a (c-a+1).toNat).map (·.v)=([0,1,2,3]:List Int).filter (mem [(a,c)])) (by decide+kernel) ⟨h0,Int.le_trans h1 b⟩ ⟨Int.le_trans h0 h1,b⟩ h1
structure GZ (b:Bool) (p:KX):Prop where
 run:EL b p.1
 x:p.2.1=DE p.1.a0 (p.1.h0-p.1.a0+1).toNat
 y:p.2.2=DE p.1.a1 (p.1.h1-p.1.a1+1).toNat
def JJ (h:GZ b p):Dh b p=B7 b p.1:=by
 obtain⟨⟨ok,a0,h0,a1,h1,_,_⟩,hx,a⟩:=h;have e0:=XJ a0 ok.d0 h0;have e1:=XJ a1 ok.d1 h1;rw[<-hx] at e0;rw[<-a] at e1;have k:B7 b p.1=I4.filter (λq=>(mem [(p.1.a0,p.1.h0)] q.1&&mem [(p.1.a1,p.1.h1)] q.2)&&GW b p.1 q.1 q.2):=by
  show uP λq Z=>?_;change (_&&(CO b (vsI b p.1) q.1 q.2&&true))=_;rw[jL];rfl
 rw[k,ZT,ZS,<-e0,<-e1];unfold Dh;rw[List.flatMap_map];show congrArg (λg=>List.flatMap g p.2.1) (funext λx=>?_);rw[List.filter_map,List.map_map];rfl
def AAc {a}{n}{x}(h:x∈DE a n):a<=x.v/\x.v<a+n:=by
 unfold DE at h;show AH (Zs.mp h) λi hi b=>?_;subst b;have:=List.mem_range.mp hi;change a<=a+(i:Int)/\a+(i:Int)<a+n;lia
def GZ.sm (h:GZ b p):gf p:=by
 obtain⟨⟨ok,a0,h0,a1,h1,_,_⟩,hx,a⟩:=h;have d0:=ok.d0;have d1:=ok.d1;have c:p.2.1.length=(p.1.h0-p.1.a0+1).toNat:=by show(hx)▸?_;unfold DE;rw[Ei,uG]
 have d:p.2.2.length=(p.1.h1-p.1.a1+1).toNat:=by show(a)▸?_;unfold DE;rw[Ei,uG]
 show⟨λe he=>?_,λe he=>?_,?_,?_,?_,?_,ok.t0⟩
 · have:=AAc (hx▸he);show⟨by lia,by lia⟩
 · have:=AAc (a▸he);show⟨by lia,by lia⟩
 · lia
 · lia
 · lia
 · lia
theorem mL {a c}(b:Sm a)(hc:Sm c):Ki a c=Kj a c:=Mm (P:=λa c=>Ki a c=Kj a c) (by decide+kernel) b hc
def ig {g o}{S}(h:(BJ g o S).1=[]):(BJ g o S).2:=by
 unfold BJ at h ⊢;cases z:BW g with
 |true=>rfl
 |false=>
  cases y:Az o with
  |true=>rfl
  |false=>
   rw[z,y] at h;have h:S.take (Bg o).toNat=[]:=h;have:=DT o;have e:S=[]:=by
    rcases List.take_eq_nil_iff.mp h with h|h
    · lia
    · show h
   change decide ((S.length:Int)<Bg o);show(e)▸?_;show Fy (by change (0:Int)<_;lia)
def ii {b}{g o}{f}:Dm (BJ g o (B7 b f))=CF (BJ g o (B7 b f)):=by
 have sm:∀x∈(BJ g o (B7 b f)).1,Sm x.1/\Sm x.2:=λx m=>Pw (JD (Mo m)).2;have nl:=ig (g:=g) (o:=o) (S:=B7 b f)
 generalize BJ g o (B7 b f)=X at sm nl
 obtain⟨F,w⟩:=X;unfold Dm CF;cases F with
 |nil=>
  have w1:w:=nl rfl;subst w1;rfl
 |cons x F=>
  have e:((x::F).flatMap λp:Int×Int=>[Ki p.1 p.2,Str.ofString "----------"])=(x::F).flatMap λp=>[Kj p.1 p.2,Str.ofString "----------"]:=
   by rw[List.flatMap_def,List.flatMap_def,List.map_congr_left λp m=>by have:=sm p m;rw[mL this.1 this.2]]
  change _++Mk false w=_++(Bool.rec [] [Str.ofString "=========="] w:List Str);show(e)▸?_;cases w<;>rfl
def ik (l:List El):BH l none none=l:=by
 unfold BH;change (l.drop 0).take (l.length-0)=l;rw[List.drop_zero,Nat.sub_zero,List.take_length]
def SU {l:List El}:(BH (BH l none (some 20)) none none).length<=20:=by
 rw[ik,P4 ∅];show List.length_take_le ..
def il {l:List El}:(BH l none (some 20)).length<=1000:=by
 rw[P4 ∅];show EX (List.length_take_le ..) ∅
theorem E8 {l}{s:Int}(h:l.length<=20)(h0:decide (0<=s))(h1:decide (s<=50)):CE (l,s):=⟨AAL h0,AAL h1,h⟩
structure AAg (t:Int×Int×Int):Prop where
 a0:0<=t.1
 a1:t.1<=1
 b:t.2.1=t.1+t.2.2-1
 m0:1<=t.2.2
 m1:t.2.2<=3
def im {p:LQ}{l}{a c:Int}{z}(h:p=(l,(a,a+(1+c)-1,1+c),z))(b:0<=a/\a<2)(hc:0<=c/\c<3):AAg p.2.1:=by
 subst h;show⟨b.1,by change a<=1;lia,rfl,by change 1<=1+c;lia,by change 1+c<=3;lia⟩
def io (h:AAg t):(Builtin.Range.small 0 t.2.2 1&&decide (0<=t.2.2)):=by
 have m0:=h.m0;have m1:=h.m1
 rcases(by lia:t.2.2=1∨t.2.2=2∨t.2.2=3) with e|e|e<;>rw[e]<;>decide+kernel
section
variable {p₀ p:LT}{q:LQ}{m:Int}(h:p₀=(q,[],0,(m-0).toNat))
include h
def Oe:Ms p₀ p₀:=by
 subst h;show⟨rfl,Int.le_refl 0,rfl,rfl⟩
variable (I:Ms p₀ p)
include I
def EW:p.1.1=q.1/\p.1.2.1.1=q.2.1.1/\p.1.2.1.2.1=q.2.1.2.1/\p.1.2.2=q.2.2:=by
 have k:=I.q;rw[h] at k;unfold SE at k;show⟨congrArg (·.1) k,congrArg (·.2.1) k,congrArg (·.2.2.1) k,congrArg (·.2.2.2) k⟩
def XM (e:p.2.2.2.beq 0)(hm:1<=m){a:Int}(b:q.2.1.1=a):p.2.1=DE a m.toNat:=by
 subst b;have r:=I.r;rw[h,LJ e] at r;have r:p.2.2.1+0=0+((m-0).toNat:Int):=r;rw[Int.add_zero,Int.zero_add,Int.sub_zero] at r;rw[I.acc,(EW h I).2.1,r,Int.toNat_natCast]
omit h in
def SV (hq:SE q'=SE p.1)(e:p.2.2.2.beq 0=false):Ms p₀ (q',p.2.1++[gV (p.1.2.1.1+p.2.2.1)],p.2.2.1+1,p.2.2.2.pred):=by
 have ne:p.2.2.2≠0:=λz=>by rw[z] at e;ext e
 have x0:=I.x;show⟨hq.trans I.q,show 0<=p.2.2.1+1 from Int.add_nonneg x0 ∅,?_,?_⟩
 · rw[<-I.r];show ie ne
 · change p.2.1++[gV (p.1.2.1.1+p.2.2.1)]=DE q'.2.1.1 (p.2.2.1+1).toNat;have e1:q'.2.1.1=p.1.2.1.1:=congrArg (·.2.1) hq;have a:(p.2.2.1+1).toNat=p.2.2.1.toNat+1:=Int.toNat_add x0 ∅;rw[e1,a,I.acc];unfold DE;rw[List.range_succ,Zf];change _++[gV _]=_++[gV (_+(p.2.2.1.toNat:Int))];rw[Int.toNat_of_nonneg x0]
end
def XN {p₀ p:LT}{q:LQ}{m:Int}(h:p₀=(q,[],0,(m-0).toNat))(I:Ms p₀ p)(hm:m<=3):p.2.1.length<=1000:=by
 have r:=I.r;rw[h] at r;have r:p.2.2.1+(p.2.2.2:Int)=0+((m-0).toNat:Int):=r;have:=I.x;show(I.acc)▸?_;unfold DE;rw[Ei,uG];show Int.toNat_le.mpr (Int.le_trans (Int.le_add_of_nonneg_right (Int.natCast_nonneg p.2.2.2)) ?_);rw[r,Int.zero_add,Int.sub_zero];show Int.ofNat_le.mpr (EX (Int.toNat_le.mpr hm) ∅)
def to {p:LT}{q:LQ}(k:p.1.1=q.1/\p.1.2.1.1=q.2.1.1/\p.1.2.1.2.1=q.2.1.2.1/\p.1.2.2=q.2.2)(e:q.2.2=(q.2.1.1,q.2.1.2.1,[])):SE (p.1.1,(p.1.2.1.1,p.1.2.1.2.1,0),p.1.2.1.1,p.1.2.1.2.1,[])=SE p.1:=by
 unfold SE;rw[k.2.2.2,e,k.2.1,k.2.2.1]
def HJ (h:r=false):(r&&r')=false:=by subst h;rfl
def QD (h:r'=false):(r&&r')=false:=by subst h;show pk r
def QE (h:r=true)(h':r'=true):(r&&r')=true:=by subst h h';rfl
theorem pred_lt {n:Nat}(e:n.beq 0=false):n.pred<n:=Nat.pred_lt λz=>by rw[z] at e;ext e
def pY {b:Bool}{c a:LQ}{j L10}(l5:AAg c.2.1)(i:AAg a.2.1)(k:a.2.2=(c.2.1.1,c.2.1.2.1,j))(l:j=DE c.2.1.1 c.2.1.2.2.toNat)(f:L10=DE a.2.1.1 a.2.1.2.2.toNat){g:Nat}(hg:g<5){t:Nat×Nat×Int}(d:Ia t){u:lJ}(h:b->(u.n<3/\u.m<3)/\0<=u.c/\u.c<=10):
 GZ b (Gn a.2.2.1 a.2.2.2.1 a.2.1.1 a.2.1.2.1 g 0 (QO t.1 t.2.1 t.2.2) u,a.2.2.2.2,L10):=by
 show(k)▸?_;obtain⟨a0,a1,hb,m0,m1⟩:=l5;obtain⟨c0,c1,hd,n0,n1⟩:=i;show⟨⟨⟨?_,?_,hg,Nat.succ_pos 4,⟨d.n,d.m⟩,λe=>(h e).1⟩,a0,?_,c0,?_,⟨d.lo,by have:=d.hi;change t.2.2<=10;lia⟩,λe=>(h e).2⟩,?_,?_⟩
 · change c.2.1.1<=c.2.1.2.1;lia
 · change a.2.1.1<=a.2.1.2.1;lia
 · change c.2.1.2.1<=3;lia
 · change a.2.1.2.1<=3;lia
 · change j=DE c.2.1.1 (c.2.1.2.1-c.2.1.1+1).toNat;rw[l,hb];congr 2;lia
 · change L10=DE a.2.1.1 (a.2.1.2.1-a.2.1.1+1).toNat;rw[f,hd];congr 2;lia
theorem tu (h:Ia t):((QO t.1 t.2.1 t.2.2).n<3/\(QO t.1 t.2.1 t.2.2).m<3)/\0<=(QO t.1 t.2.1 t.2.2).c/\(QO t.1 t.2.1 t.2.2).c<=10:=⟨⟨h.n,h.m⟩,h.lo,by have:=h.hi;change t.2.2<=10;lia⟩
theorem GZ.ch {b}{p}(h:GZ b p){o}(ho:o<5){u}(a:b->u=p.1.t1):GZ b (Gn p.1.a0 p.1.h0 p.1.a1 p.1.h1 p.1.g o p.1.t0 u,p.2.1,p.2.2):=
 ⟨⟨⟨h.run.ok.d0,h.run.ok.d1,h.run.ok.g,ho,h.run.ok.t0,λe=>by show(a e)▸?_;show h.run.ok.t1 e⟩,h.run.a0,h.run.b0,h.run.a1,h.run.b1,h.run.c0,λe=>by show(a e)▸?_;show h.run.c1 e⟩,h.x,h.y⟩
def Fx (h:p.1.t1=QO 0 0 0):(Gn p.1.a0 p.1.h0 p.1.a1 p.1.h1 p.1.g p.1.o p.1.t0 (QO 0 0 0),p.2.1,p.2.2)=p:=by rw[<-h]
def FL {f}{x y:Int}{r}(h:r=AZ (3 * f.t0.n+f.t0.m) f.t0.c x y):GW false f x y=r:=by show(h)▸?_;show jL _
def CT {f}{x y:Int}{r r'}(h:r=AZ (3 * f.t0.n+f.t0.m) f.t0.c x y)(h':r'=AZ (3 * f.t1.n+f.t1.m) f.t1.c x y):GW true f x y=(r&&r'):=by rw[h,h'];rfl
section
variable {b:Bool}{q:KX}
def Of (h:p=(q,[],0))(W:GZ b q)(t:b=false->q.1.t1=QO 0 0 0):Ib b p p:=by
 subst h;show⟨rfl,t,λe=>W.run.ok.t1 e,W.sm,QQ _,QQ _,rfl⟩
variable {p₀ o:OA}(O:Ib b p₀ o)(lt:o.2.2<o.1.2.1.length)
include O lt
def Hf (h:p=(q,(o.1.2.1.getD o.2.2 BY).v,o.2.1,o.2.2.succ,0))(e:q=o.1):CR b w p p:=by
 subst e h;show⟨λZ=>rfl,rfl,O.t,O.k,O.s,rfl,?_,rfl,QQ _,by have:=O.len;change o.2.1.length+4<=4 * (o.2.2+1)+0;lia,lt,?_⟩
 · show O.s.x _ ?_;change o.1.2.1.getD o.2.2 BY∈o.1.2.1;rw[NS,FA lt];show Zu lt
 · change BK o.2.1=BK o.2.1++[];rw[XW]
def JK (h:j=(q,(o.1.2.1.getD o.2.2 BY).v,o.2.1,o.2.2.succ,0))(eq:q=o.1)(I:CR b w j p)(ge:p.1.2.2.length<=p.2.2.2.2)(e:q'=p.1):Ib b p₀ (q',p.2.2.1,p.2.2.2.1):=by
 subst e eq;have e1:p.1=o.1:=I.q.trans (congrArg (·.1) h);have a:p.2.2.2.1=o.2.2+1:=I.i.trans (congrArg (·.2.2.2.1) h);have c:p.2.1=(o.1.2.1.getD o.2.2 BY).v:=I.a.trans (congrArg (·.2.1) h);have d:j.2.2.1=o.2.1:=congrArg (·.2.2.1) h;show⟨e1.trans O.q,I.t,I.k,I.s,I.hi,?_,?_⟩
 · have:=I.len;have:=I.j;have:=I.s.ny;change p.2.2.1.length<=4 * p.2.2.2.1;lia
 · change BK p.2.2.1=(p.1.2.1.take p.2.2.2.1).flatMap _;rw[I.r,jO ge,e1,a,c,d,O.r,uQ,FA lt,List.flatMap_append,NS,FA lt];simp
def JL (h:j=(q,(o.1.2.1.getD o.2.2 BY).v,o.2.1,o.2.2.succ,0))(eq:q=o.1)(I:CR b w j p):p.1.2.1.length-p.2.2.2.1<o.1.2.1.length-o.2.2:=by
 subst eq;rw[show p.1=o.1 from I.q.trans (congrArg (·.1) h),show p.2.2.2.1=o.2.2+1 from I.i.trans (congrArg (·.2.2.2.1) h)];show Nat.sub_lt_sub_left (by assumption) (Nat.lt_succ_self _)
end
section
variable {b:Bool}{p₀ p:OA}{q:KX}(h:p₀=(q,[],0))(I:Ib b p₀ p)(ge:p.1.2.1.length<=p.2.2)
include h I ge
omit ge in
theorem XO (e:q=x):p.1=x:=e▸I.q.trans (congrArg (·.1) h)
def LC (e:q=x):BK p.2.1=Dh b x:=by
 subst e;have e1:p.1=q:=I.q.trans (congrArg (·.1) h);rw[I.r,jO ge,e1];rfl
end
section
variable {b w:Bool}{p₀ p:IA}(I:CR b w p₀ p)
include I
def Hg (h:w=false)(ge:p.1.2.2.length<=p.2.2.2.2):False:=by
 rw[I.z h] at ge;have:=I.s.n1;lia
def FM:p.2.2.1.length<=1000:=by
 have:=I.len;have:=I.hi;have:=I.j;have:=I.s.nx;have:=I.s.ny;lia
variable (lt:p.2.2.2.2<p.1.2.2.length)
include lt
def DJ:Sm (p.1.2.2.getD p.2.2.2.2 BY).v:=by
 show I.s.y _ ?_;rw[NS,FA lt];show Zu lt
variable {q:KX}(e:q=p.1)
include e
def FN (k:GW b p.1.1 p.2.1 (p.1.2.2.getD p.2.2.2.2 BY).v):CR b true p₀ (q,p.2.1,p.2.2.1++[JB p.2.1 (p.1.2.2.getD p.2.2.2.2 BY).v],p.2.2.2.1,p.2.2.2.2.succ):=by
 subst e;show⟨λe=>(nomatch e),I.q,I.t,I.k,I.s,I.a,I.sa,I.i,lt,?_,I.hi,?_⟩
 · have:=I.len;change (p.2.2.1++[_]).length+4<=4 * p.2.2.2.1+(p.2.2.2.2+1)
   show(JT)▸?_;change p.2.2.1.length+1+4<=_;lia
 · change BK (p.2.2.1++[_])=BK p₀.2.2.1++J4 b p.1.1 p.2.1 (p.1.2.2.take (p.2.2.2.2+1));rw[K5,I.r,uQ,FA lt];rw[NS,FA lt] at k ⊢;unfold J4;rw[List.filter_append,Zf,pj]
   congr 2
   change _=([p.1.2.2[p.2.2.2.2]].filter _).map _;rw[nB,if_pos (show GW b p.1.1 p.2.1 p.1.2.2[p.2.2.2.2].v=true from k)];rfl
def Bt (k:GW b p.1.1 p.2.1 (p.1.2.2.getD p.2.2.2.2 BY).v=false):CR b true p₀ (q,p.2.1,p.2.2.1,p.2.2.2.1,p.2.2.2.2.succ):=by
 subst e;show⟨λe=>(nomatch e),I.q,I.t,I.k,I.s,I.a,I.sa,I.i,lt,?_,I.hi,?_⟩
 · have:=I.len;change p.2.2.1.length+4<=4 * p.2.2.2.1+(p.2.2.2.2+1)
   lia
 · change BK p.2.2.1=BK p₀.2.2.1++J4 b p.1.1 p.2.1 (p.1.2.2.take (p.2.2.2.2+1));rw[I.r,uQ,FA lt];rw[NS,FA lt] at k;unfold J4;rw[List.filter_append,Zf]
   congr 1
   change _=_++([p.1.2.2[p.2.2.2.2]].filter _).map _;rw[nB,if_neg (by rw[show GW b p.1.1 p.2.1 p.1.2.2[p.2.2.2.2].v=false from k];simp)];show(XW _).symm
end
def XQ (h:BK l=Dh b p)(W:GZ b p):l.length<=16:=by
 rw[<-show (BK l).length=l.length from Ei ..,h,JJ W];show JE _
def EE (h:BK l=Dh b p)(W:GZ b p):(BK l).length<=16:=by rw[h,JJ W];show JE _
def CX (h:BK l=Dh b p)(W:GZ b p):∀x∈BK l,Sm x.1/\Sm x.2:=by
 rw[h,JJ W];show λx m=>Pw (JD m).2
def LD (h:p₀=((f,F,[]),0))(I:HI b p₀ p)(ge:p.1.2.1.1.length<=p.2)(hx:x=(f',p.1.2.1,p.1.2.2)):x.2.1=F/\x.2.2=EM x.2.1.1:=by
 subst hx;show⟨I.l.trans (congrArg (·.1.2.1) h),I.r.trans (by rw[jO ge])⟩
def Og (h:p=((f,F,[]),0)):HI b p p:=by subst h;show⟨rfl,rfl,QQ _,rfl⟩
def JM (I:HI b p₀ p)(lt:p.2<p.1.2.1.1.length)(hf:DZ b f=DZ b p.1.1):HI b p₀ ((f,p.1.2.1,p.1.2.2++[AAZ (Kj (p.1.2.1.1.getD p.2 BY).v (p.1.2.1.1.getD p.2 BY).w),AAZ "----------"]),p.2.succ):=by
 show⟨hf.trans I.f,I.l,lt,?_⟩;change p.1.2.2++_=EM (p.1.2.1.1.take (p.2+1));rw[I.r,uQ,FA lt,NS,FA lt];unfold EM;show(List.flatMap_append)▸?_;rfl
section
variable {b:Bool}{g o:Nat}{S:List (Int×Int)}{F:List El×Bool}(T:(BK F.1,F.2)=BJ g o S)(hS:∀x∈S,Sm x.1/\Sm x.2)(hn:S.length<=16)
include T
def CY (hS:∀x∈S,Sm x.1/\Sm x.2){p₀ p}{f}(h:p₀=((f,F,[]),0))(I:HI b p₀ p)(lt:p.2<p.1.2.1.1.length):Sm (p.1.2.1.1.getD p.2 BY).v/\Sm (p.1.2.1.1.getD p.2 BY).w:=by
 have e:p.1.2.1=F:=I.l.trans (congrArg (·.1.2.1) h);have m:p.1.2.1.1.getD p.2 BY∈F.1:=by
  rw[NS,FA lt,<-e];show Zu lt
 have m:((p.1.2.1.1.getD p.2 BY).v,(p.1.2.1.1.getD p.2 BY).w)∈BK F.1:=List.mem_map_of_mem m;rw[show BK F.1=(BJ g o S).1 from congrArg Prod.fst T] at m;show hS _ (Mo m)
def FP (hn:S.length<=16){p₀ p}{f}(h:p₀=((f,F,[]),0))(I:HI b p₀ p):p.1.2.2.length<=32:=by
 have e:p.1.2.1=F:=I.l.trans (congrArg (·.1.2.1) h);have l:F.1.length<=16:=by
  rw[<-show (BK F.1).length=F.1.length from Ei ..,show BK F.1=_ from congrArg Prod.fst T];show R9 hn
 have k:∀m:List El,(EM m).length=2 * m.length:=λm=>by
  induction m with
  |nil=>rfl
  |cons x m ih=>change (EM m).length+2=2 * (m.length+1);lia
 rw[I.r,k,e];have:=List.length_take_le' p.2 F.1;lia
end
def FQ {f:El->AV}{l:List El}(h:l.length<=32):(l.map f).length<=1000:=by rw[Ei];lia
theorem QF {a:Int}(h:Sm a):(Di a).length+1<=1000:=Ml (P:=λa=>(Di a).length+1<=1000) (by decide+kernel) (by decide+kernel) (by decide+kernel) (by decide+kernel) h
theorem QG {a c:Int}(h:Sm a)(h':Sm c):(Di a++Str.ofString " ").length+(Di c).length<=1000:=Mm (P:=λa c=>(Di a++Str.ofString " ").length+(Di c).length<=1000) (by decide+kernel) h h'
def XR l:(EM l).map (·.s)=(BK l).flatMap λp=>[Kj p.1 p.2,Str.ofString "----------"]:=by
 induction l with
 |nil=>rfl
 |cons x m ih=>show congrArg (λz=>Kj x.v x.w::Str.ofString "----------"::z) ih
section
variable {x:WA}(e:x.2.2=EM x.2.1.1)
def mM (h:x.2.1.1.isEmpty):[Str.ofString "=====UNSATISFIABLE====="]=CF (BK x.2.1.1,x.2.1.2):=by
 unfold CF;show(NU.mp h)▸?_;rfl
include e
def mN (h:x.2.1.1.isEmpty=false)(w:x.2.1.2):(x.2.2++[AAZ "=========="]).map (·.s)=CF (BK x.2.1.1,x.2.1.2):=by
 have z:(BK x.2.1.1).isEmpty=false:=by cases q:x.2.1.1 with|nil=>rw[q] at h;ext h|cons=>rfl
 unfold CF;rw[Zf,e,XR,z,w];rfl
def mO (h:x.2.1.1.isEmpty=false)(w:x.2.1.2=false):x.2.2.map (·.s)=CF (BK x.2.1.1,x.2.1.2):=by
 have z:(BK x.2.1.1).isEmpty=false:=by cases q:x.2.1.1 with|nil=>rw[q] at h;ext h|cons=>rfl
 unfold CF;rw[e,XR,z,w];show(XW _).symm
end
def AAW (h:DZ b f=DZ b f')(R:EL b f'):EL b f:=by
 cases b with
 |true=>cases (h:f=f');show R
 |false=>
  obtain⟨ok,a0,h0,a1,h1,c0,c1⟩:=R;unfold DZ at h
  injection h with e1 a c d i j g _
  show⟨⟨by rw[e1,a];show ok.d0,by rw[c,d];show ok.d1,by show(i)▸?_;show ok.g,by show(j)▸?_;show ok.o,by show(g)▸?_;show ok.t0,nofun⟩,by show(e1)▸?_;show a0,by show(a)▸?_;show h0,by show(c)▸?_;show a1,by show(d)▸?_;show h1,by show(g)▸?_;show c0,nofun⟩
def ip (h:DZ b f=DZ b f'):f.g=f'.g/\f.o=f'.o/\B7 b f=B7 b f':=by
 cases b with
 |true=>cases (h:f=f');show⟨rfl,rfl,rfl⟩
 |false=>
  have k:∀f:FS,f.g=(DZ false f).g/\f.o=(DZ false f).o/\B7 false f=B7 false (DZ false f):=λf=>⟨rfl,rfl,rfl⟩
  show QR (k f) λa1 a c=>?_;show QR (k f') λb1 d g=>?_;rw[a1,a,c,b1,d,g,h];show⟨rfl,rfl,rfl⟩
def LG {b:Bool}{a:KX}{l:List El}{f:FS}{F:List El×Bool}{d r:List El}(W:GZ b a)(hl:BK l=Dh b a)(T:(BK F.1,F.2)=BJ a.1.g a.1.o (BK l))(hf:DZ b f=DZ b a.1)(hd:d.map (·.s)=CF (BK F.1,F.2))(hr:r.map (·.s)=Dm (BJ f.g f.o (B7 b f))):
 decide (r.map (·.s)=d.map (·.s)):=by
 show QR (ip hf) λe1 c g=>?_;rw[hr,hd,T,hl,JJ W,e1,c,g];show Fy ii
theorem tv:Is (AP ZL 260 Hz OZ):=AQ (p:=∀R:List El,(List.length R).le 63->rf (LP tB R)/\∀X,X=R->(L1 X/\let n6:=BH X none (some 20);L1 n6/\rf (LM 0 tB X (BH n6 none none))/\(BH n6 none none).length.le 20)/\∀S:List El,(List.length S).le 20->rf (LA (JH 0) ((S,0),2))/\(CE (S,0)/\(1:Int).NonNeg)/\(∀T:Int,(0<=T/\T<2)->rf (LA (JH 0) ((S,1),3))/\(CE (S,1)/\(2:Int).NonNeg)/\(∀V:Int,(0<=V/\V<3)->let b5:=(S,(T,T+(1+V)-1,1+V),T,T+(1+V)-1,[]);rf (LP (Mr false) b5)/\∀N,N=b5->let c2:=N.2.1;AF (Builtin.Range.small 0 c2.2.2 1&&decide (0<=c2.2.2)) (λ_=>let g3:=((N.1,(c2.1,c2.2.1,c2.2.2),c2.1,c2.2.1,[]),[],0,(c2.2.2-0).toNat);rf (LV (JI false) false g3)/\∀O,O=g3->Ms O O/\Ut (∀L:LQ×List El×Int×Nat,Ms O L->let h6:=L.1.2.1;AF (L.2.2.2.beq 0) (λ_=>Ez (LM 0 (Mr false) N L.2.1) [(4,Lf.d [(h6.1,h6.2.1)]),(8,Lf.l L.1.1)]=LM 0 (Mr false) N L.2.1/\L.2.1=DE c2.1 c2.2.2.toNat) λ_=>L1 L.2.1/\let f0:=((L.1.1,(h6.1,h6.2.1,0),h6.1,h6.2.1,[]),L.2.1++[(Ed false [] (h6.1+L.2.2.1) 0)],L.2.2.1+1,L.2.2.2.pred);rf (LV (JI false) true f0)/\Ms O f0/\L.2.2.2.pred.succ.le L.2.2.2)) (λ_=>False)/\∀O,O=DE c2.1 c2.2.2.toNat->rf (LA (JH 0) ((N.1,2),2))/\(CE (N.1,2)/\(1:Int).NonNeg)/\(∀L:Int,(0<=L/\L<2)->rf (LA (JH 0) ((N.1,3),3))/\(CE (N.1,3)/\(2:Int).NonNeg)/\(∀Y:Int,(0<=Y/\Y<3)->let g5:=(N.1,(L,L+(1+Y)-1,1+Y),c2.1,c2.2.1,O);rf (LP (Mr true) g5)/\∀M,M=g5->let a5:=M.2.1;let m6:=M.2.2;AF (Builtin.Range.small 0 a5.2.2 1&&decide (0<=a5.2.2)) (λ_=>let d2:=((M.1,(a5.1,a5.2.1,a5.2.2),m6.1,m6.2.1,m6.2.2),[],0,(a5.2.2-0).toNat);rf (LV (JI true) false d2)/\∀P,P=d2->Ms P P/\Ut (∀J:LQ×List El×Int×Nat,Ms P J->let n4:=J.1.2;AF (J.2.2.2.beq 0) (λ_=>Ez (LM 0 (Mr true) M J.2.1) [(1,Lf.l n4.2.2.2),(5,Lf.d [(n4.1.1,n4.1.2.1)]),(7,Lf.d [(n4.2.1,n4.2.2.1)]),(11,Lf.l J.1.1)]=LM 0 (Mr true) M J.2.1/\J.2.1=DE a5.1 a5.2.2.toNat) λ_=>L1 J.2.1/\let d0:=((J.1.1,(n4.1.1,n4.1.2.1,0),n4.2.1,n4.2.2.1,n4.2.2.2),J.2.1++[(Ed false [] (n4.1.1+J.2.2.1) 0)],J.2.2.1+1,J.2.2.2.pred);rf (LV (JI true) true d0)/\Ms P d0/\J.2.2.2.pred.succ.le J.2.2.2)) (λ_=>False)/\∀P,P=DE a5.1 a5.2.2.toNat->rf (LA (JH 1) ((M.1,4),5))/\let c6:=Nat.succ 0;(CE (M.1,4)/\(5:Int)=5/\c6.le 5)/\(∀J:Nat,(Nat.succ J).le 5->(Nat.succ J).le 5/\rf (LA (JH 2) ((M.1,5),2))/\(CE (M.1,5)/\(2:Int)=2/\c6.le 2)/\let s:=(λx=>x.5);let z:=(El.mk false [] 0 0 "==========");let m0:=El.mk false [] 0 0 "----------";let b1:=[(El.mk false [] 0 0 "=====UNSATISFIABLE=====")];let n2:=("=====UNSATISFIABLE=====":Str);let h4:=Ch Ty.str;let m4:=oN OZ 0;let e7:=LX 0 m4 R ();(∀Z:Unit,True->rf (LA J3 (M.1,6))/\(CE (M.1,6)/\(34:Int).NonNeg)/\(∀Q:Nat×Nat×Int,Ia Q->let y:=QO 0 0 0;let e2:=(M.1,(Gn m6.1 m6.2.1 a5.1 a5.2.1 J 0 (QO Q.1 Q.2.1 Q.2.2) y),m6.2.2,P);let l5:=gY false;rf (LP l5 e2)/\∀K,K=e2->(rf (LA (JH 5) ((K.1,9),5))/\(CE (K.1,9)/\(5:Int)=5/\c6.le 5)/\(∀I:Unit,True->rf (LM 3 l5 K (0,()))/\c6.le 5)/\(∀I:Unit,True->rf (LM 3 l5 K (1,()))/\(Nat.succ 1).le 5)/\(∀I:Unit,True->rf (LM 3 l5 K (2,()))/\(Nat.succ 2).le 5)/\(∀I:Unit,True->rf (LM 3 l5 K (3,()))/\(Nat.succ 3).le 5)/\(∀I:Unit,True->rf (LM 3 l5 K (4,()))/\(Nat.succ 4).le 5)/\True)/\∀I:Nat×Unit,I.1.succ.le 5->let m2:=((Gn K.2.1.1 K.2.1.2 K.2.1.3 K.2.1.4 K.2.1.5 I.1 K.2.1.t0 y),K.2.2.1,K.2.2.2);let h7:=gb false;rf (LP h7 m2)/\∀G,G=m2->let e0:=Gn G.1.1 G.1.2 G.1.3 G.1.4 G.1.5 G.1.6 G.1.t0 y;(let d9:=((e0,G.2.1,G.2.2),[],0);rf (LV (GX false) false d9)/\∀H,H=d9->Ib false H H/\let n1:=P5 false;(∀D:KX×List El×Nat,Ib false H D->let j3:=D.1.1;(D.2.2<D.1.2.1.length->let g0:=(((Gn j3.1 j3.2 j3.3 j3.4 j3.5 j3.6 j3.t0 y),D.1.2.1,D.1.2.2),(D.1.2.1.getD D.2.2 BY).v,D.2.1,D.2.2.succ,0);rf (LV n1 false g0)/\∀C,C=g0->CR false false C C/\(∀B:KX×Int×List El×Nat×Nat,CR false false C B->let a3:=B.2.2;(a3.2.2<B.1.2.2.length->let b4:=B.1.2.2.getD a3.2.2 BY;let f9:=B.2.1;rf (LA CN ((B.1.1.t0.n,B.1.1.t0.m,B.1.1.t0.c),f9,b4.v))/\((B.1.1.t0.n.succ.le 3/\B.1.1.t0.m.succ.le 3)/\Sm f9/\Sm b4.v)/\(∀A,A=AZ (kT B.1.1.t0) B.1.1.t0.c f9 b4.v->let e8:=B.1.1;let j:=((Gn e8.1 e8.2 e8.3 e8.4 e8.5 e8.6 e8.t0 y),B.1.2.1,B.1.2.2);let i8:=B.1.2.2.length-a3.2.2.succ;let m9:=B.1.2.2.length-a3.2.2;AF (!A) (λ_=>let a7:=(j,f9,a3.1,a3.2.1,a3.2.2.succ);rf (LV n1 true a7)/\CR false true C a7/\i8.succ.le m9) λ_=>L1 B.2.2.1/\let c1:=(j,f9,a3.1++[(Ed false [] f9 (b4.v))],a3.2.1,a3.2.2.succ);rf (LV n1 true c1)/\CR false true C c1/\i8.succ.le m9)/\True)/\(B.1.2.2.length<=a3.2.2->False))/\∀B:KX×Int×List El×Nat×Nat,CR false true C B->let n0:=B.2.2;let c8:=B.1.1;let a:=((Gn c8.1 c8.2 c8.3 c8.4 c8.5 c8.6 c8.t0 y),B.1.2.1,B.1.2.2);(n0.2.2<B.1.2.2.length->let c4:=B.1.2.2.getD n0.2.2 BY;let g9:=B.2.1;rf (LA CN ((B.1.1.t0.n,B.1.1.t0.m,B.1.1.t0.c),g9,c4.v))/\((B.1.1.t0.n.succ.le 3/\B.1.1.t0.m.succ.le 3)/\Sm g9/\Sm c4.v)/\(∀A,A=AZ (kT B.1.1.t0) B.1.1.t0.c g9 c4.v->let j8:=B.1.2.2.length-n0.2.2.succ;let n9:=B.1.2.2.length-n0.2.2;AF (!A) (λ_=>let b7:=(a,g9,n0.1,n0.2.1,n0.2.2.succ);rf (LV n1 true b7)/\CR false true C b7/\j8.succ.le n9) λ_=>L1 B.2.2.1/\let j1:=(a,g9,n0.1++[(Ed false [] g9 (c4.v))],n0.2.1,n0.2.2.succ);rf (LV n1 true j1)/\CR false true C j1/\j8.succ.le n9)/\True)/\(B.1.2.2.length<=n0.2.2->rf (LV (GX false) true (a,n0.1,n0.2.1))/\Ib false H (a,n0.1,n0.2.1)/\(B.1.2.1.length-n0.2.1).succ.le (D.1.2.1.length-D.2.2)))/\(D.1.2.1.length<=D.2.2->Ez (LM 0 h7 G D.2.1) [(1,Lf.n j3.6),(2,Lf.i j3.t0.c),(6,Lf.n j3.t0.m),(9,Lf.n j3.t0.n),(10,Lf.d [(j3.3,j3.4)]),(12,Lf.d [(j3.1,j3.2)]),(21,Lf.n j3.5),(23,Lf.n j3.5)]=LM 0 h7 G D.2.1/\BK D.2.1=Dh false G))/\∀D:KX×List El×Nat,Ib false H D->let k3:=D.1.1;(D.2.2<D.1.2.1.length->let h0:=(((Gn k3.1 k3.2 k3.3 k3.4 k3.5 k3.6 k3.t0 y),D.1.2.1,D.1.2.2),(D.1.2.1.getD D.2.2 BY).v,D.2.1,D.2.2.succ,0);rf (LV n1 true h0)/\∀C,C=h0->CR false true C C/\(∀B:KX×Int×List El×Nat×Nat,CR false false C B->let b3:=B.2.2;(b3.2.2<B.1.2.2.length->let d4:=B.1.2.2.getD b3.2.2 BY;let h9:=B.2.1;rf (LA CN ((B.1.1.t0.n,B.1.1.t0.m,B.1.1.t0.c),h9,d4.v))/\((B.1.1.t0.n.succ.le 3/\B.1.1.t0.m.succ.le 3)/\Sm h9/\Sm d4.v)/\(∀A,A=AZ (kT B.1.1.t0) B.1.1.t0.c h9 d4.v->let f8:=B.1.1;let k:=((Gn f8.1 f8.2 f8.3 f8.4 f8.5 f8.6 f8.t0 y),B.1.2.1,B.1.2.2);let k8:=B.1.2.2.length-b3.2.2.succ;AF (!A) (λ_=>let c7:=(k,h9,b3.1,b3.2.1,b3.2.2.succ);rf (LV n1 true c7)/\CR false true C c7/\k8.succ.le (B.1.2.2.length-b3.2.2)) λ_=>L1 B.2.2.1/\let d1:=(k,h9,b3.1++[(Ed false [] h9 (d4.v))],b3.2.1,b3.2.2.succ);rf (LV n1 true d1)/\CR false true C d1/\k8.succ.le (B.1.2.2.length-b3.2.2))/\True)/\(B.1.2.2.length<=b3.2.2->False))/\∀B:KX×Int×List El×Nat×Nat,CR false true C B->let a1:=B.2.2;let d8:=B.1.1;let b:=((Gn d8.1 d8.2 d8.3 d8.4 d8.5 d8.6 d8.t0 y),B.1.2.1,B.1.2.2);(a1.2.2<B.1.2.2.length->let e4:=B.1.2.2.getD a1.2.2 BY;let i9:=B.2.1;rf (LA CN ((B.1.1.t0.n,B.1.1.t0.m,B.1.1.t0.c),i9,e4.v))/\((B.1.1.t0.n.succ.le 3/\B.1.1.t0.m.succ.le 3)/\Sm i9/\Sm e4.v)/\(∀A,A=AZ (kT B.1.1.t0) B.1.1.t0.c i9 e4.v->let l8:=B.1.2.2.length-a1.2.2.succ;AF (!A) (λ_=>let d7:=(b,i9,a1.1,a1.2.1,a1.2.2.succ);rf (LV n1 true d7)/\CR false true C d7/\l8.succ.le (B.1.2.2.length-a1.2.2)) λ_=>L1 B.2.2.1/\let k1:=(b,i9,a1.1++[(Ed false [] i9 (e4.v))],a1.2.1,a1.2.2.succ);rf (LV n1 true k1)/\CR false true C k1/\l8.succ.le (B.1.2.2.length-a1.2.2))/\True)/\(B.1.2.2.length<=a1.2.2->rf (LV (GX false) true (b,a1.1,a1.2.1))/\Ib false H (b,a1.1,a1.2.1)/\(B.1.2.1.length-a1.2.1).succ.le (D.1.2.1.length-D.2.2)))/\(D.1.2.1.length<=D.2.2->Ez (LM 0 h7 G D.2.1) [(1,Lf.n k3.6),(2,Lf.i k3.t0.c),(6,Lf.n k3.t0.m),(9,Lf.n k3.t0.n),(10,Lf.d [(k3.3,k3.4)]),(12,Lf.d [(k3.1,k3.2)]),(21,Lf.n k3.5),(23,Lf.n k3.5)]=LM 0 h7 G D.2.1/\BK D.2.1=Dh false G))/\∀H:List El,BK H=Dh false G->rf (LA SD (H,G.1.5,G.1.6))/\((List.length H).le 16/\G.1.5.succ.le 5)/\(∀D:List El×Bool,(BK D.1,D.2)=BJ G.1.5 G.1.6 (BK H)->let j9:=((e0,(D.1,D.2),[]),0);rf (LV (GY false) false j9)/\∀C,C=j9->HI false C C/\(∀B:WA×Nat,HI false C B->let c5:=B.1.2;let a8:=(c5.1.1,c5.1.2);let g8:=B.1.1;let j0:=Gn g8.1 g8.2 g8.3 g8.4 g8.5 g8.6 g8.t0 y;(B.2<B.1.2.1.1.length->let i0:=B.1.2.1.1.getD B.2 BY;small i0.v/\(id (Di (i0.v)).length).succ.le 1000/\small i0.w/\((lT (i0.v)).length+(Di (i0.w)).length).le 1000/\L1 (List.map h4 c5.2)/\Nat.le 2 1000/\let t:=((j0,a8,c5.2++[(El.mk false [] 0 0 (Kj (i0.v) (i0.w))),m0]),B.2.succ);rf (LV (GY false) true t)/\HI false C t/\(B.1.2.1.1.length-B.2.succ).succ.le (B.1.2.1.1.length-B.2))/\(B.1.2.1.1.length<=B.2->let e6:=gg false false;rf (LP e6 (j0,a8,c5.2))/\∀A,A=(j0,a8,c5.2)->let l3:=A.2.1;let m5:=(BK l3.1,l3.2);let i6:=A.2.2;AF (A.2.1.1.isEmpty) (λ_=>rf (LM 0 e6 A b1)/\(i6=EM l3.1->[n2]=CF m5)) (λ_=>AF (l3.2) (λ_=>L1 (List.map h4 i6)/\Nat.le 1 1000/\rf (LM 0 e6 A (i6++[z]))/\(i6=EM l3.1->List.map s (i6++[z])=CF m5)) λ_=>rf (LM 0 e6 A i6)/\(i6=EM l3.1->List.map s i6=CF m5))/\∀E:List El,(i6=EM l3.1->List.map s E=CF m5)->let l1:=Gn A.1.1 A.1.2 A.1.3 A.1.4 A.1.5 A.1.6 A.1.t0 y;rf (LA (JC false) l1)/\EL false l1/\(∀F:List El,List.map s F=Dm (BJ A.1.5 A.1.6 (B7 false l1))->Ez e7 [(0,Lf.v (Value.bool (decide (List.map s F=List.map s E))))]=LX 0 m4 R ()/\True)/\True))/\∀B:WA×Nat,HI false C B->let d5:=B.1.2;let b8:=(d5.1.1,d5.1.2);let h8:=B.1.1;let l0:=Gn h8.1 h8.2 h8.3 h8.4 h8.5 h8.6 h8.t0 y;(B.2<B.1.2.1.1.length->let k0:=B.1.2.1.1.getD B.2 BY;small k0.v/\(id (Di (k0.v)).length).succ.le 1000/\small k0.w/\((lT (k0.v)).length+(Di (k0.w)).length).le 1000/\L1 (List.map h4 d5.2)/\Nat.le 2 1000/\let u:=((l0,b8,d5.2++[(El.mk false [] 0 0 (Kj (k0.v) (k0.w))),m0]),B.2.succ);rf (LV (GY false) true u)/\HI false C u/\(B.1.2.1.1.length-B.2.succ).succ.le (B.1.2.1.1.length-B.2))/\(B.1.2.1.1.length<=B.2->let f7:=gg false true;rf (LP f7 (l0,b8,d5.2))/\∀A,A=(l0,b8,d5.2)->let m3:=A.2.1;let n5:=(BK m3.1,m3.2);let j6:=A.2.2;AF (A.2.1.1.isEmpty) (λ_=>rf (LM 0 f7 A b1)/\(j6=EM m3.1->[n2]=CF n5)) (λ_=>AF (m3.2) (λ_=>L1 (List.map h4 j6)/\Nat.le 1 1000/\rf (LM 0 f7 A (j6++[z]))/\(j6=EM m3.1->List.map s (j6++[z])=CF n5)) λ_=>rf (LM 0 f7 A j6)/\(j6=EM m3.1->List.map s j6=CF n5))/\∀E:List El,(j6=EM m3.1->List.map s E=CF n5)->let m1:=Gn A.1.1 A.1.2 A.1.3 A.1.4 A.1.5 A.1.6 A.1.t0 y;rf (LA (JC false) m1)/\EL false m1/\(∀F:List El,List.map s F=Dm (BJ A.1.5 A.1.6 (B7 false m1))->Ez e7 [(0,Lf.v (Value.bool (decide (List.map s F=List.map s E))))]=LX 0 m4 R ()/\True)/\True))/\True)/\True)/\(∀Z:Unit,True->rf (LA J3 (M.1,6))/\(CE (M.1,6)/\(34:Int).NonNeg)/\(∀Q:Nat×Nat×Int,Ia Q->rf (LA J3 (M.1,9))/\(CE (M.1,9)/\(31:Int).NonNeg)/\(∀K:Nat×Nat×Int,Ia K->let i1:=(M.1,(Gn m6.1 m6.2.1 a5.1 a5.2.1 J 0 (QO Q.1 Q.2.1 Q.2.2) (QO K.1 K.2.1 K.2.2)),m6.2.2,P);let d6:=gY true;rf (LP d6 i1)/\∀I,I=i1->(rf (LA (JH 5) ((I.1,12),5))/\(CE (I.1,12)/\(5:Int)=5/\c6.le 5)/\(∀G:Unit,True->rf (LM 3 d6 I (0,()))/\c6.le 5)/\(∀G:Unit,True->rf (LM 3 d6 I (1,()))/\(Nat.succ 1).le 5)/\(∀G:Unit,True->rf (LM 3 d6 I (2,()))/\(Nat.succ 2).le 5)/\(∀G:Unit,True->rf (LM 3 d6 I (3,()))/\(Nat.succ 3).le 5)/\(∀G:Unit,True->rf (LM 3 d6 I (4,()))/\(Nat.succ 4).le 5)/\True)/\∀G:Nat×Unit,G.1.succ.le 5->let f2:=((Gn I.2.1.1 I.2.1.2 I.2.1.3 I.2.1.4 I.2.1.5 G.1 I.2.1.t0 I.2.1.t1),I.2.2.1,I.2.2.2);let l7:=gb true;rf (LP l7 f2)/\∀H,H=f2->(let m8:=((H.1,H.2.1,H.2.2),[],0);rf (LV (GX true) false m8)/\∀D,D=m8->Ib true D D/\let c0:=P5 true;(∀C:KX×List El×Nat,Ib true D C->(C.2.2<C.1.2.1.length->let e3:=((C.1.1,C.1.2.1,C.1.2.2),(C.1.2.1.getD C.2.2 BY).v,C.2.1,C.2.2.succ,0);rf (LV c0 false e3)/\∀B,B=e3->CR true false B B/\(∀A:KX×Int×List El×Nat×Nat,CR true false B A->let f6:=A.2.2;(f6.2.2<A.1.2.2.length->let o:=A.1.2.2.getD f6.2.2 BY;let h5:=A.2.1;rf (LA CN ((A.1.1.t0.n,A.1.1.t0.m,A.1.1.t0.c),h5,o.v))/\((A.1.1.t0.n.succ.le 3/\A.1.1.t0.m.succ.le 3)/\Sm h5/\Sm o.v)/\(∀E,E=AZ (kT A.1.1.t0) A.1.1.t0.c h5 o.v->let g2:=A.1.2.2.length-A.2.2.2.2.succ;let c3:=A.1.2.2.length-f6.2.2;let i4:=LA CN ((A.1.1.t1.n,A.1.1.t1.m,A.1.1.t1.c),h5,o.v);let k9:=(A.1.1,A.1.2.1,A.1.2.2);let e:=(k9,h5,f6.1,f6.2.1,f6.2.2.succ);let n8:=LV c0 true e;AF (!E) (λ_=>rf i4/\((A.1.1.t1.n.succ.le 3/\A.1.1.t1.m.succ.le 3)/\Sm h5/\Sm o.v)/\(∀F,F=AZ (kT A.1.1.t1) A.1.1.t1.c h5 o.v->AF (!F) (λ_=>rf n8/\CR true true B e/\g2.succ.le c3) λ_=>rf n8/\CR true true B e/\g2.succ.le c3)/\True) λ_=>rf i4/\((A.1.1.t1.n.succ.le 3/\A.1.1.t1.m.succ.le 3)/\Sm h5/\Sm o.v)/\(∀F,F=AZ (kT A.1.1.t1) A.1.1.t1.c h5 o.v->AF (!F) (λ_=>rf n8/\CR true true B e/\g2.succ.le c3) λ_=>L1 A.2.2.1/\let e1:=(k9,h5,f6.1++[(Ed false [] h5 (o.v))],f6.2.1,f6.2.2.succ);rf (LV c0 true e1)/\CR true true B e1/\g2.succ.le c3)/\True)/\True)/\(A.1.2.2.length<=f6.2.2->False))/\∀A:KX×Int×List El×Nat×Nat,CR true true B A->let k2:=A.2.2;let h3:=(A.1.1,A.1.2.1,A.1.2.2);(k2.2.2<A.1.2.2.length->let p:=A.1.2.2.getD k2.2.2 BY;let i5:=A.2.1;rf (LA CN ((A.1.1.t0.n,A.1.1.t0.m,A.1.1.t0.c),i5,p.v))/\((A.1.1.t0.n.succ.le 3/\A.1.1.t0.m.succ.le 3)/\Sm i5/\Sm p.v)/\(∀E,E=AZ (kT A.1.1.t0) A.1.1.t0.c i5 p.v->let f:=(h3,i5,k2.1,k2.2.1,k2.2.2.succ);let h2:=A.1.2.2.length-A.2.2.2.2.succ;let f4:=A.1.2.2.length-k2.2.2;let j4:=LA CN ((A.1.1.t1.n,A.1.1.t1.m,A.1.1.t1.c),i5,p.v);let a9:=LV c0 true f;AF (!E) (λ_=>rf j4/\((A.1.1.t1.n.succ.le 3/\A.1.1.t1.m.succ.le 3)/\Sm i5/\Sm p.v)/\(∀F,F=AZ (kT A.1.1.t1) A.1.1.t1.c i5 p.v->AF (!F) (λ_=>rf a9/\CR true true B f/\h2.succ.le f4) λ_=>rf a9/\CR true true B f/\h2.succ.le f4)/\True) λ_=>rf j4/\((A.1.1.t1.n.succ.le 3/\A.1.1.t1.m.succ.le 3)/\Sm i5/\Sm p.v)/\(∀F,F=AZ (kT A.1.1.t1) A.1.1.t1.c i5 p.v->AF (!F) (λ_=>rf a9/\CR true true B f/\h2.succ.le f4) λ_=>L1 A.2.2.1/\let f1:=(h3,i5,k2.1++[(Ed false [] i5 (p.v))],k2.2.1,k2.2.2.succ);rf (LV c0 true f1)/\CR true true B f1/\h2.succ.le f4)/\True)/\True)/\(A.1.2.2.length<=k2.2.2->rf (LV (GX true) true (h3,k2.1,k2.2.1))/\Ib true D (h3,k2.1,k2.2.1)/\(A.1.2.1.length-k2.2.1).succ.le (C.1.2.1.length-C.2.2)))/\(C.1.2.1.length<=C.2.2->(let j7:=C.1.1;Ez (LM 0 l7 H C.2.1) [(1,Lf.n j7.6),(2,Lf.i j7.t1.c),(6,Lf.n j7.t1.m),(9,Lf.n j7.t1.n),(10,Lf.i j7.t0.c),(14,Lf.n j7.t0.m),(17,Lf.n j7.t0.n),(18,Lf.d [(j7.3,j7.4)]),(20,Lf.d [(j7.1,j7.2)]),(29,Lf.n j7.5),(31,Lf.n j7.5)]=LM 0 l7 H C.2.1)/\BK C.2.1=Dh true H))/\∀C:KX×List El×Nat,Ib true D C->(C.2.2<C.1.2.1.length->let f3:=((C.1.1,C.1.2.1,C.1.2.2),(C.1.2.1.getD C.2.2 BY).v,C.2.1,C.2.2.succ,0);rf (LV c0 true f3)/\∀B,B=f3->CR true true B B/\(∀A:KX×Int×List El×Nat×Nat,CR true false B A->let g6:=A.2.2;(g6.2.2<A.1.2.2.length->let q:=A.1.2.2.getD g6.2.2 BY;let j5:=A.2.1;rf (LA CN ((A.1.1.t0.n,A.1.1.t0.m,A.1.1.t0.c),j5,q.v))/\((A.1.1.t0.n.succ.le 3/\A.1.1.t0.m.succ.le 3)/\Sm j5/\Sm q.v)/\(∀E,E=AZ (kT A.1.1.t0) A.1.1.t0.c j5 q.v->let i2:=A.1.2.2.length-A.2.2.2.2.succ;let d3:=A.1.2.2.length-g6.2.2;let k4:=LA CN ((A.1.1.t1.n,A.1.1.t1.m,A.1.1.t1.c),j5,q.v);let l9:=(A.1.1,A.1.2.1,A.1.2.2);let g:=(l9,j5,g6.1,g6.2.1,g6.2.2.succ);let b9:=LV c0 true g;AF (!E) (λ_=>rf k4/\((A.1.1.t1.n.succ.le 3/\A.1.1.t1.m.succ.le 3)/\Sm j5/\Sm q.v)/\(∀F,F=AZ (kT A.1.1.t1) A.1.1.t1.c j5 q.v->AF (!F) (λ_=>rf b9/\CR true true B g/\i2.succ.le d3) λ_=>rf b9/\CR true true B g/\i2.succ.le d3)/\True) λ_=>rf k4/\((A.1.1.t1.n.succ.le 3/\A.1.1.t1.m.succ.le 3)/\Sm j5/\Sm q.v)/\(∀F,F=AZ (kT A.1.1.t1) A.1.1.t1.c j5 q.v->AF (!F) (λ_=>rf b9/\CR true true B g/\i2.succ.le d3) λ_=>L1 A.2.2.1/\let g1:=(l9,j5,g6.1++[(Ed false [] j5 (q.v))],g6.2.1,g6.2.2.succ);rf (LV c0 true g1)/\CR true true B g1/\i2.succ.le d3)/\True)/\True)/\(A.1.2.2.length<=g6.2.2->False))/\∀A:KX×Int×List El×Nat×Nat,CR true true B A->let l2:=A.2.2;let i3:=(A.1.1,A.1.2.1,A.1.2.2);(l2.2.2<A.1.2.2.length->let r:=A.1.2.2.getD l2.2.2 BY;let k5:=A.2.1;rf (LA CN ((A.1.1.t0.n,A.1.1.t0.m,A.1.1.t0.c),k5,r.v))/\((A.1.1.t0.n.succ.le 3/\A.1.1.t0.m.succ.le 3)/\Sm k5/\Sm r.v)/\(∀E,E=AZ (kT A.1.1.t0) A.1.1.t0.c k5 r.v->let h:=(i3,k5,l2.1,l2.2.1,l2.2.2.succ);let j2:=A.1.2.2.length-A.2.2.2.2.succ;let g4:=A.1.2.2.length-l2.2.2;let l4:=LA CN ((A.1.1.t1.n,A.1.1.t1.m,A.1.1.t1.c),k5,r.v);let c9:=LV c0 true h;AF (!E) (λ_=>rf l4/\((A.1.1.t1.n.succ.le 3/\A.1.1.t1.m.succ.le 3)/\Sm k5/\Sm r.v)/\(∀F,F=AZ (kT A.1.1.t1) A.1.1.t1.c k5 r.v->AF (!F) (λ_=>rf c9/\CR true true B h/\j2.succ.le g4) λ_=>rf c9/\CR true true B h/\j2.succ.le g4)/\True) λ_=>rf l4/\((A.1.1.t1.n.succ.le 3/\A.1.1.t1.m.succ.le 3)/\Sm k5/\Sm r.v)/\(∀F,F=AZ (kT A.1.1.t1) A.1.1.t1.c k5 r.v->AF (!F) (λ_=>rf c9/\CR true true B h/\j2.succ.le g4) λ_=>L1 A.2.2.1/\let h1:=(i3,k5,l2.1++[(Ed false [] k5 (r.v))],l2.2.1,l2.2.2.succ);rf (LV c0 true h1)/\CR true true B h1/\j2.succ.le g4)/\True)/\True)/\(A.1.2.2.length<=l2.2.2->rf (LV (GX true) true (i3,l2.1,l2.2.1))/\Ib true D (i3,l2.1,l2.2.1)/\(A.1.2.1.length-l2.2.1).succ.le (C.1.2.1.length-C.2.2)))/\(C.1.2.1.length<=C.2.2->(let k7:=C.1.1;Ez (LM 0 l7 H C.2.1) [(1,Lf.n k7.6),(2,Lf.i k7.t1.c),(6,Lf.n k7.t1.m),(9,Lf.n k7.t1.n),(10,Lf.i k7.t0.c),(14,Lf.n k7.t0.m),(17,Lf.n k7.t0.n),(18,Lf.d [(k7.3,k7.4)]),(20,Lf.d [(k7.1,k7.2)]),(29,Lf.n k7.5),(31,Lf.n k7.5)]=LM 0 l7 H C.2.1)/\BK C.2.1=Dh true H))/\∀D:List El,BK D=Dh true H->rf (LA SD (D,H.1.5,H.1.6))/\((List.length D).le 16/\H.1.5.succ.le 5)/\(∀C:List El×Bool,(BK C.1,C.2)=BJ H.1.5 H.1.6 (BK D)->let e9:=((H.1,(C.1,C.2),[]),0);rf (LV (GY true) false e9)/\∀B,B=e9->HI true B B/\(∀A:WA×Nat,HI true B A->let e5:=A.1.2;(A.2<A.1.2.1.1.length->let a0:=A.1.2.1.1.getD A.2 BY;small a0.v/\(id (Di (a0.v)).length).succ.le 1000/\small a0.w/\((lT (a0.v)).length+(Di (a0.w)).length).le 1000/\L1 (List.map h4 e5.2)/\Nat.le 2 1000/\let a2:=((A.1.1,(e5.1.1,e5.1.2),e5.2++[(El.mk false [] 0 0 (Kj (a0.v) (a0.w))),m0]),A.2.succ);rf (LV (GY true) true a2)/\HI true B a2/\(A.1.2.1.1.length-A.2.succ).succ.le (A.1.2.1.1.length-A.2))/\(A.1.2.1.1.length<=A.2->let g7:=gg true false;let m7:=(A.1.1,(e5.1.1,e5.1.2),e5.2);rf (LP g7 m7)/\∀E,E=m7->let n3:=E.2.1;let a6:=(BK n3.1,n3.2);let k6:=E.2.2;AF (E.2.1.1.isEmpty) (λ_=>rf (LM 0 g7 E b1)/\(k6=EM n3.1->[n2]=CF a6)) (λ_=>AF (n3.2) (λ_=>L1 (List.map h4 k6)/\Nat.le 1 1000/\rf (LM 0 g7 E (k6++[z]))/\(k6=EM n3.1->List.map s (k6++[z])=CF a6)) λ_=>rf (LM 0 g7 E k6)/\(k6=EM n3.1->List.map s k6=CF a6))/\∀F:List El,(k6=EM n3.1->List.map s F=CF a6)->rf (LA (JC true) E.1)/\EL true E.1/\(∀U:List El,List.map s U=Dm (BJ E.1.5 E.1.6 (B7 true E.1))->Ez e7 [(0,Lf.v (Value.bool (decide (List.map s U=List.map s F))))]=LX 0 m4 R ()/\True)/\True))/\∀A:WA×Nat,HI true B A->let f5:=A.1.2;(A.2<A.1.2.1.1.length->let b0:=A.1.2.1.1.getD A.2 BY;small b0.v/\(id (Di (b0.v)).length).succ.le 1000/\small b0.w/\((lT (b0.v)).length+(Di (b0.w)).length).le 1000/\L1 (List.map h4 f5.2)/\Nat.le 2 1000/\let b2:=((A.1.1,(f5.1.1,f5.1.2),f5.2++[(El.mk false [] 0 0 (Kj (b0.v) (b0.w))),m0]),A.2.succ);rf (LV (GY true) true b2)/\HI true B b2/\(A.1.2.1.1.length-A.2.succ).succ.le (A.1.2.1.1.length-A.2))/\(A.1.2.1.1.length<=A.2->let i7:=gg true true;let n7:=(A.1.1,(f5.1.1,f5.1.2),f5.2);rf (LP i7 n7)/\∀E,E=n7->let a4:=E.2.1;let b6:=(BK a4.1,a4.2);let l6:=E.2.2;AF (E.2.1.1.isEmpty) (λ_=>rf (LM 0 i7 E b1)/\(l6=EM a4.1->[n2]=CF b6)) (λ_=>AF (a4.2) (λ_=>L1 (List.map h4 l6)/\Nat.le 1 1000/\rf (LM 0 i7 E (l6++[z]))/\(l6=EM a4.1->List.map s (l6++[z])=CF b6)) λ_=>rf (LM 0 i7 E l6)/\(l6=EM a4.1->List.map s l6=CF b6))/\∀F:List El,(l6=EM a4.1->List.map s F=CF b6)->rf (LA (JC true) E.1)/\EL true E.1/\(∀U:List El,List.map s U=Dm (BJ E.1.5 E.1.6 (B7 true E.1))->Ez e7 [(0,Lf.v (Value.bool (decide (List.map s U=List.map s F))))]=LX 0 m4 R ()/\True)/\True))/\True)/\True)/\True)/\True)/\True)/\True)/\True)/\True)/\True) ∅ λR hp=>by
 dsimp only;show⟨rfl,(λX h1=>⟨⟨(by rw[h1];show Be hp),il,rfl,SU⟩,(λS h2=>⟨rfl,⟨E8 h2 rfl rfl,Int.NonNeg.mk _⟩,(λT h3=>⟨rfl,⟨E8 h2 rfl rfl,Int.NonNeg.mk _⟩,(λV h4=>⟨rfl,(λN h5=>have L5:=im h5 h3 h4;have H5:N.1.length<=20:=(by rw[h5];show h2);⟨AB (λh6=>⟨rfl,λO h7=>⟨Oe h7,Dd (λL h8=>(AB (λh9=>⟨(by rw[show L.1.1=N.1 from (EW h7 h8).1,show L.1.2.1.1=N.2.1.1 from (EW h7 h8).2.1,show L.1.2.1.2.1=N.2.1.2.1 from (EW h7 h8).2.2.1]<;>kernel_rfl),XM h7 h8 h9 L5.m0 rfl⟩) λh9=>⟨XN h7 h8 L5.m1,rfl,SV h8 (to (EW h7 h8) rfl) h9,pred_lt h9⟩))⟩⟩) λh6=>absurd (io L5) (by rw[h6];decide),(λO h6=>⟨rfl,⟨E8 H5 rfl rfl,Int.NonNeg.mk _⟩,(λL h7=>⟨rfl,⟨E8 H5 rfl rfl,Int.NonNeg.mk _⟩,(λY h8=>⟨rfl,(λM h9=>have L9:=im h9 h7 h8;have H9:M.1.length<=20:=(by rw[h9];show H5);have E9:M.2.2=(N.2.1.1,N.2.1.2.1,O):=congrArg (λz:LQ=>z.2.2) h9;⟨AB (λo7=>⟨rfl,λP o2=>⟨Oe o2,Dd (λJ o3=>(AB (λo6=>⟨(by rw[show J.1.1=M.1 from (EW o2 o3).1,show J.1.2.1.1=M.2.1.1 from (EW o2 o3).2.1,show J.1.2.1.2.1=M.2.1.2.1 from (EW o2 o3).2.2.1,show J.1.2.2=M.2.2 from (EW o2 o3).2.2.2]<;>kernel_rfl),XM o2 o3 o6 L9.m0 rfl⟩) λo6=>⟨XN o2 o3 L9.m1,rfl,SV o3 rfl o6,pred_lt o6⟩))⟩⟩) λo7=>absurd (io L9) (by rw[o7];decide),(λP o7=>⟨rfl,⟨E8 H9 rfl rfl,rfl,DF rfl⟩,(λJ o2=>⟨o2,rfl,⟨E8 H9 rfl rfl,rfl,DF rfl⟩,(λZ o3=>⟨rfl,⟨E8 H9 rfl rfl,Int.NonNeg.mk _⟩,(λQ o6=>⟨rfl,(λK o8=>have W14:GZ false K.2:=(by rw[o8];show pY L5 L9 E9 h6 o7 o2 o6 nofun);have H14:K.1.length<=20:=(by rw[o8];show H9);⟨⟨rfl,⟨E8 H14 rfl rfl,rfl,DF rfl⟩,λI o4=>⟨rfl,DF rfl⟩,λI o4=>⟨rfl,DF rfl⟩,λI o4=>⟨rfl,DF rfl⟩,λI o4=>⟨rfl,DF rfl⟩,λI o4=>⟨rfl,DF rfl⟩,trv⟩,(λI o4=>⟨rfl,(λG o5=>have W16:GZ false G:=(by rw[o5];show GZ.ch (p:=K.2) W14 o4 nofun);have T16:G.1.t1=QO 0 0 0:=(by rw[o5]);⟨⟨rfl,(λH o0=>⟨Of o0 (GZ.ch W16 W16.run.ok.o nofun) λ_=>rfl,λD v=>⟨λn=>⟨rfl,λC m=>⟨Hf v n m (Fx (v.t rfl)),λB d=>⟨λc=>⟨rfl,⟨⟨d.s.t0.1,d.s.t0.2⟩,d.sa,DJ d c⟩,λA i=>(AB (λl=>⟨rfl,Bt d c (Fx (d.t rfl)) ((FL i).trans (BG l)),AAM _ _ c⟩) λl=>⟨FM d,rfl,FN d c (Fx (d.t rfl)) ((FL i).trans (A3 l)),AAM _ _ c⟩),trv⟩,λc=>(Hg d rfl c).elim⟩,λB d=>⟨λc=>⟨rfl,⟨⟨d.s.t0.1,d.s.t0.2⟩,d.sa,DJ d c⟩,λA i=>(AB (λl=>⟨rfl,Bt d c (Fx (d.t rfl)) ((FL i).trans (BG l)),AAM _ _ c⟩) λl=>⟨FM d,rfl,FN d c (Fx (d.t rfl)) ((FL i).trans (A3 l)),AAM _ _ c⟩),trv⟩,λc=>⟨rfl,JK v n m (Fx (v.t rfl)) d c (Fx (d.t rfl)),JL v n m (Fx (v.t rfl)) d⟩⟩⟩⟩,λn=>⟨(by rw[show D.1.1=G.1 from congrArg Prod.fst (XO o0 v (Fx T16))]<;>kernel_rfl),LC o0 v n (Fx T16)⟩⟩,λD v=>⟨λn=>⟨rfl,λC m=>⟨Hf v n m (Fx (v.t rfl)),λB d=>⟨λc=>⟨rfl,⟨⟨d.s.t0.1,d.s.t0.2⟩,d.sa,DJ d c⟩,λA i=>(AB (λl=>⟨rfl,Bt d c (Fx (d.t rfl)) ((FL i).trans (BG l)),AAM _ _ c⟩) λl=>⟨FM d,rfl,FN d c (Fx (d.t rfl)) ((FL i).trans (A3 l)),AAM _ _ c⟩),trv⟩,λc=>(Hg d rfl c).elim⟩,λB d=>⟨λc=>⟨rfl,⟨⟨d.s.t0.1,d.s.t0.2⟩,d.sa,DJ d c⟩,λA i=>(AB (λl=>⟨rfl,Bt d c (Fx (d.t rfl)) ((FL i).trans (BG l)),AAM _ _ c⟩) λl=>⟨FM d,rfl,FN d c (Fx (d.t rfl)) ((FL i).trans (A3 l)),AAM _ _ c⟩),trv⟩,λc=>⟨rfl,JK v n m (Fx (v.t rfl)) d c (Fx (d.t rfl)),JL v n m (Fx (v.t rfl)) d⟩⟩⟩⟩,λn=>⟨(by rw[show D.1.1=G.1 from congrArg Prod.fst (XO o0 v (Fx T16))]<;>kernel_rfl),LC o0 v n (Fx T16)⟩⟩⟩)⟩,λH o0=>⟨rfl,⟨XQ o0 W16,W16.run.ok.g⟩,λD v=>⟨rfl,λC n=>⟨Og n,λB m=>⟨λd=>⟨(CY v (CX o0 W16) n m d).1.small,QF (CY v (CX o0 W16) n m d).1,(CY v (CX o0 W16) n m d).2.small,QG (CY v (CX o0 W16) n m d).1 (CY v (CX o0 W16) n m d).2,FQ (FP v (EE o0 W16) n m),DF rfl,rfl,JM m d rfl,AAM _ _ d⟩,λd=>⟨rfl,(λA c=>have C21:DZ false A.1=DZ false G.1:=((congrArg (λz:WA=>DZ false z.1) c).trans m.f).trans (congrArg (λz:WA×Nat=>DZ false z.1.1) n);have E21:=LD n m d c;⟨AB (λi=>⟨rfl,λl=>mM i⟩) λi=>(AB (λl=>⟨(by rw[c];show FQ (FP v (EE o0 W16) n m)),DF rfl,rfl,λw=>mN w i l⟩) λl=>⟨rfl,λw=>mO w i l⟩),λE i=>⟨rfl,AAW C21 W16.run,λF l=>⟨(by rw[LG W16 o0 v C21 (show List.map (λx=>x.s) E=CF (BK D.1,D.2) from by have k:=i E21.2;rw[E21.1] at k;show k) l]<;>kernel_rfl),trv⟩,trv⟩⟩)⟩⟩,λB m=>⟨λd=>⟨(CY v (CX o0 W16) n m d).1.small,QF (CY v (CX o0 W16) n m d).1,(CY v (CX o0 W16) n m d).2.small,QG (CY v (CX o0 W16) n m d).1 (CY v (CX o0 W16) n m d).2,FQ (FP v (EE o0 W16) n m),DF rfl,rfl,JM m d rfl,AAM _ _ d⟩,λd=>⟨rfl,(λA c=>have C21:DZ false A.1=DZ false G.1:=((congrArg (λz:WA=>DZ false z.1) c).trans m.f).trans (congrArg (λz:WA×Nat=>DZ false z.1.1) n);have E21:=LD n m d c;⟨AB (λi=>⟨rfl,λl=>mM i⟩) λi=>(AB (λl=>⟨(by rw[c];show FQ (FP v (EE o0 W16) n m)),DF rfl,rfl,λw=>mN w i l⟩) λl=>⟨rfl,λw=>mO w i l⟩),λE i=>⟨rfl,AAW C21 W16.run,λF l=>⟨(by rw[LG W16 o0 v C21 (show List.map (λx=>x.s) E=CF (BK D.1,D.2) from by have k:=i E21.2;rw[E21.1] at k;show k) l]<;>kernel_rfl),trv⟩,trv⟩⟩)⟩⟩⟩⟩,trv⟩⟩)⟩)⟩)⟩),trv⟩),(λZ o3=>⟨rfl,⟨E8 H9 rfl rfl,Int.NonNeg.mk _⟩,(λQ o6=>⟨rfl,⟨E8 H9 rfl rfl,Int.NonNeg.mk _⟩,(λK o8=>⟨rfl,(λI o4=>have W14:GZ true I.2:=(by rw[o4];show pY L5 L9 E9 h6 o7 o2 o6 λ_=>tu o8);have H14:I.1.length<=20:=(by rw[o4];show H9);⟨⟨rfl,⟨E8 H14 rfl rfl,rfl,DF rfl⟩,λG o5=>⟨rfl,DF rfl⟩,λG o5=>⟨rfl,DF rfl⟩,λG o5=>⟨rfl,DF rfl⟩,λG o5=>⟨rfl,DF rfl⟩,λG o5=>⟨rfl,DF rfl⟩,trv⟩,(λG o5=>⟨rfl,(λH o0=>have W16:GZ true H:=(by rw[o0];show GZ.ch (p:=I.2) W14 o5 λ_=>rfl);⟨⟨rfl,(λD v=>⟨Of v W16 nofun,λC n=>⟨λm=>⟨rfl,λB d=>⟨Hf n m d rfl,λA c=>⟨λi=>⟨rfl,⟨⟨c.s.t0.1,c.s.t0.2⟩,c.sa,DJ c i⟩,λE l=>(AB (λw=>⟨rfl,⟨⟨(c.k rfl).1,(c.k rfl).2⟩,c.sa,DJ c i⟩,λF W=>(AB (λo1=>⟨rfl,Bt c i rfl ((CT l W).trans (HJ (BG w))),AAM _ _ i⟩) λo1=>⟨rfl,Bt c i rfl ((CT l W).trans (HJ (BG w))),AAM _ _ i⟩),trv⟩) λw=>⟨rfl,⟨⟨(c.k rfl).1,(c.k rfl).2⟩,c.sa,DJ c i⟩,λF W=>(AB (λo1=>⟨rfl,Bt c i rfl ((CT l W).trans (QD (BG o1))),AAM _ _ i⟩) λo1=>⟨FM c,rfl,FN c i rfl ((CT l W).trans (QE (A3 w) (A3 o1))),AAM _ _ i⟩),trv⟩),trv⟩,λi=>(Hg c rfl i).elim⟩,λA c=>⟨λi=>⟨rfl,⟨⟨c.s.t0.1,c.s.t0.2⟩,c.sa,DJ c i⟩,λE l=>(AB (λw=>⟨rfl,⟨⟨(c.k rfl).1,(c.k rfl).2⟩,c.sa,DJ c i⟩,λF W=>(AB (λo1=>⟨rfl,Bt c i rfl ((CT l W).trans (HJ (BG w))),AAM _ _ i⟩) λo1=>⟨rfl,Bt c i rfl ((CT l W).trans (HJ (BG w))),AAM _ _ i⟩),trv⟩) λw=>⟨rfl,⟨⟨(c.k rfl).1,(c.k rfl).2⟩,c.sa,DJ c i⟩,λF W=>(AB (λo1=>⟨rfl,Bt c i rfl ((CT l W).trans (QD (BG o1))),AAM _ _ i⟩) λo1=>⟨FM c,rfl,FN c i rfl ((CT l W).trans (QE (A3 w) (A3 o1))),AAM _ _ i⟩),trv⟩),trv⟩,λi=>⟨rfl,JK n m d rfl c i rfl,JL n m d rfl c⟩⟩⟩⟩,λm=>⟨(by rw[show C.1.1=H.1 from congrArg Prod.fst (XO v n rfl)]<;>kernel_rfl),LC v n m rfl⟩⟩,λC n=>⟨λm=>⟨rfl,λB d=>⟨Hf n m d rfl,λA c=>⟨λi=>⟨rfl,⟨⟨c.s.t0.1,c.s.t0.2⟩,c.sa,DJ c i⟩,λE l=>(AB (λw=>⟨rfl,⟨⟨(c.k rfl).1,(c.k rfl).2⟩,c.sa,DJ c i⟩,λF W=>(AB (λo1=>⟨rfl,Bt c i rfl ((CT l W).trans (HJ (BG w))),AAM _ _ i⟩) λo1=>⟨rfl,Bt c i rfl ((CT l W).trans (HJ (BG w))),AAM _ _ i⟩),trv⟩) λw=>⟨rfl,⟨⟨(c.k rfl).1,(c.k rfl).2⟩,c.sa,DJ c i⟩,λF W=>(AB (λo1=>⟨rfl,Bt c i rfl ((CT l W).trans (QD (BG o1))),AAM _ _ i⟩) λo1=>⟨FM c,rfl,FN c i rfl ((CT l W).trans (QE (A3 w) (A3 o1))),AAM _ _ i⟩),trv⟩),trv⟩,λi=>(Hg c rfl i).elim⟩,λA c=>⟨λi=>⟨rfl,⟨⟨c.s.t0.1,c.s.t0.2⟩,c.sa,DJ c i⟩,λE l=>(AB (λw=>⟨rfl,⟨⟨(c.k rfl).1,(c.k rfl).2⟩,c.sa,DJ c i⟩,λF W=>(AB (λo1=>⟨rfl,Bt c i rfl ((CT l W).trans (HJ (BG w))),AAM _ _ i⟩) λo1=>⟨rfl,Bt c i rfl ((CT l W).trans (HJ (BG w))),AAM _ _ i⟩),trv⟩) λw=>⟨rfl,⟨⟨(c.k rfl).1,(c.k rfl).2⟩,c.sa,DJ c i⟩,λF W=>(AB (λo1=>⟨rfl,Bt c i rfl ((CT l W).trans (QD (BG o1))),AAM _ _ i⟩) λo1=>⟨FM c,rfl,FN c i rfl ((CT l W).trans (QE (A3 w) (A3 o1))),AAM _ _ i⟩),trv⟩),trv⟩,λi=>⟨rfl,JK n m d rfl c i rfl,JL n m d rfl c⟩⟩⟩⟩,λm=>⟨(by rw[show C.1.1=H.1 from congrArg Prod.fst (XO v n rfl)]<;>kernel_rfl),LC v n m rfl⟩⟩⟩)⟩,λD v=>⟨rfl,⟨XQ v W16,W16.run.ok.g⟩,λC n=>⟨rfl,λB m=>⟨Og m,λA d=>⟨λc=>⟨(CY n (CX v W16) m d c).1.small,QF (CY n (CX v W16) m d c).1,(CY n (CX v W16) m d c).2.small,QG (CY n (CX v W16) m d c).1 (CY n (CX v W16) m d c).2,FQ (FP n (EE v W16) m d),DF rfl,rfl,JM d c rfl,AAM _ _ c⟩,λc=>⟨rfl,(λE i=>have C21:DZ true E.1=DZ true H.1:=((congrArg (λz:WA=>DZ true z.1) i).trans d.f).trans (congrArg (λz:WA×Nat=>DZ true z.1.1) m);have E21:=LD m d c i;⟨AB (λl=>⟨rfl,λw=>mM l⟩) λl=>(AB (λw=>⟨(by rw[i];show FQ (FP n (EE v W16) m d)),DF rfl,rfl,λW=>mN W l w⟩) λw=>⟨rfl,λW=>mO W l w⟩),λF l=>⟨rfl,AAW C21 W16.run,λU w=>⟨(by rw[LG W16 v n C21 (show List.map (λx=>x.s) F=CF (BK C.1,C.2) from by have k:=l E21.2;rw[E21.1] at k;show k) w]<;>kernel_rfl),trv⟩,trv⟩⟩)⟩⟩,λA d=>⟨λc=>⟨(CY n (CX v W16) m d c).1.small,QF (CY n (CX v W16) m d c).1,(CY n (CX v W16) m d c).2.small,QG (CY n (CX v W16) m d c).1 (CY n (CX v W16) m d c).2,FQ (FP n (EE v W16) m d),DF rfl,rfl,JM d c rfl,AAM _ _ c⟩,λc=>⟨rfl,(λE i=>have C21:DZ true E.1=DZ true H.1:=((congrArg (λz:WA=>DZ true z.1) i).trans d.f).trans (congrArg (λz:WA×Nat=>DZ true z.1.1) m);have E21:=LD m d c i;⟨AB (λl=>⟨rfl,λw=>mM l⟩) λl=>(AB (λw=>⟨(by rw[i];show FQ (FP n (EE v W16) m d)),DF rfl,rfl,λW=>mN W l w⟩) λw=>⟨rfl,λW=>mO W l w⟩),λF l=>⟨rfl,AAW C21 W16.run,λU w=>⟨(by rw[LG W16 v n C21 (show List.map (λx=>x.s) F=CF (BK C.1,C.2) from by have k:=l E21.2;rw[E21.1] at k;show k) w]<;>kernel_rfl),trv⟩,trv⟩⟩)⟩⟩⟩⟩,trv⟩⟩)⟩)⟩)⟩),trv⟩),trv⟩),trv⟩),trv⟩)⟩)⟩),trv⟩),trv⟩)⟩)⟩),trv⟩),trv⟩)⟩)⟩
end
section
open PySem PySem.W PySem.Spec PySem.Calls PyProof.Rows
structure JN (K:Frag) (S:St):Prop where
 tab:BX K S TT
 cls:G8 K ((Gk,DW)::H6)
 le:∀F,TT.fns.lookup Av=some F->H3 K S F B0 AK
 ne:∀F,TT.fns.lookup Aw=some F->H3 K S F B1 AK
 eq:∀F,TT.fns.lookup CJ=some F->H3 K S F Dr AK
theorem JN.grow {K}{S S'}(B:JN K S)(g:Grows S S'):JN K S':=⟨B.tab.grow g,B.cls,λF e=>(B.le F e).grow g,λF e=>(B.ne F e).grow g,λF e=>(B.eq F e).grow g⟩
theorem QH {K}{l j}(h:G8 K l)(q:∀C f,j.lookup C=some f->l.lookup C=some f):G8 K j:=λC f e=>h C f (q C f e)
def Ev (S:St)(p:St->Prop):=∀S',Grows S S'->p S'
section
variable {K:Frag}{S:St}{Z:Jd}{n m:Nat}{a:Addr}{sp:Spec}{l:List (Addr×Nat×Hl)}
theorem JN.cn (B:JN K S)(b:Ev S λS'=>CB K S' Z)(h:Is (AP Z n a sp)):Ev S λS'=>DR S' (n+1) a sp:=λS' g=>Us (B.tab.grow g) (b S' g) h
theorem JN.fn (B:JN K S)(e:(TT.fns.lookup a).isSome):Ev S λS'=>isFn S' a:=λS' g=>by
 cases q:TT.fns.lookup a with
 |none=>rw[q] at e;ext e
 |some F=>show Ks (B.tab.grow g) q
theorem FT (h:Ev S λS'=>DR S' m a sp):Ev S λS'=>Gh S' m a (MM sp):=λS' g=>PL λS'' b=>h S'' (g.trans b)
theorem SW {ι:Type}{sp:ι->Spec}{f:List AV->AC->ι}{R:ι->Prop}(hf:∀as σ,R (f as σ))(h:∀i,R i->Ev S λS'=>DR S' m a (sp i)):Ev S λS'=>Gh S' m a (BZ sp f):=λS' g as k c q=>PL (λS'' b=>h _ (hf as c.σ) S'' (g.trans b)) as k c q
theorem CG {ι:Type}{sp:ι->Spec}{f:List AV->AC->ι}(h:∀i,Ev S λS'=>DR S' m a (sp i)):Ev S λS'=>Gh S' m a (BZ sp f):=SW (R:=λZ=>True) (λZ Z=>trivial) λi Z=>h i
theorem JN.cons (B:JN K S){f}(hf:Ev S λS'=>Gh S' m a f)(e:(TT.fns.lookup a).isSome)(h:Ev S λS'=>BP S' l):Ev S λS'=>BP S' ((a,m,f)::l):=λS' g=>YU (hf S' g) (B.fn e S' g) (h S' g)
theorem Ic:Ev S λS'=>BP S' []:=λZ Z=>dp
theorem Hh:Jo S none:=λZ e=>nomatch e
theorem cls_nil:G8 K []:=λZ Z e=>nomatch e
theorem QI (h:Ev S λS'=>BP S' l)(hc:G8 K cls)(hv:Ev S λS'=>Jo S' virt):Ev S λS'=>CB K S' (Hx l cls hl hm virt):=λS' g=>sH (h S' g) hc (hv S' g)
theorem D3 (h:Ev S λS'=>BP S' l):Ev S λS'=>CB K S' (Hx l [] hl hm none):=QI h cls_nil λZ Z=>Hh
theorem iq:CB K S Z0 where
 ctr:=λZ Z e=>nomatch e
 cls:=cls_nil
 prim:=λZ Z Z Z h Z rs Z hr=>Ra h rs hr
 virt:=Hh
 lp:=λZ Z e=>nomatch e
def LH i l σ:OL i l σ<3:=by
 unfold OL
 generalize (Int.decEq 1 _).decide=x
 generalize (Int.decEq (-1) _).decide=y
 cases x<;>cases y<;>decide
theorem XS {p:Nat->Prop}(h0:p 0)(h1:p 1)(a:p 2):∀j,j<3->p j:=λj h=>match j with|0=>h0|1=>h1|2=>a|j+3=>absurd h (by lia)
theorem ir {p:Nat->Prop}(h0:p 0)(h1:p 1)(a:p 2)(h3:p 3)(b:p 4)(c:p 5)(d:p 6)(f:p 7)(g:p 8):∀j,j<9->p j:=λj h=>match j with|0=>h0|1=>h1|2=>a|3=>h3|4=>b|5=>c|6=>d|7=>f|8=>g|j+9=>absurd h (by lia)
theorem two {p:Bool->Prop}(h0:p false)(h1:p true):∀b,p b:=λb=>match b with|false=>h0|true=>h1
theorem mQ {p:Bool×Bool->Prop}(h0:p (false,false))(h1:p (false,true))(a:p (true,false))(h3:p (true,true)):∀b,p b:=λb=>match b with|(false,false)=>h0|(false,true)=>h1|(true,false)=>a|(true,true)=>h3
theorem six {p:Nat->Prop}(h0:p 0)(h1:p 1)(b:p 2)(h3:p 3)(c:p 4)(a:p 5)(d:∀j,p 5->p (j+6)):∀j,p j:=λj=>match j with|0=>h0|1=>h1|2=>b|3=>h3|4=>c|5=>a|j+6=>d j a
end
section
variable {K:Frag}{S:St}(B:JN K S)
include B
theorem ev1:Ev S λS'=>BP S' sK:=B.cons (FT (B.cn (λZ Z=>iq) yt)) ∅ <| B.cons (FT (B.cn (λZ Z=>iq) lU)) ∅ Ic
def ev2:Ev S λS'=>BP S' sM:=by
 have L:=D3 (K:=K) (hl:=Cv) (hm:=Bs) (ev1 B);show B.cons (CG λi=>?_) ∅ <| B.cons (CG (two (B.cn L Y2) (B.cn L Y1))) ∅ (ev1 B)
 match i with
 |(false,.le)=>show B.cn L P6
 |(false,.ge)=>show B.cn L P7
 |(false,.ne)=>show B.cn L P8
 |(true,.le)=>show B.cn L P9
 |(true,.ge)=>show B.cn L QA
 |(true,.ne)=>show B.cn L QB
def ev3:Ev S λS'=>BP S' sN:=by
 have L:=D3 (K:=K) (hl:=Cv) (hm:=Bs) (ev2 B);show B.cons (CG (six (B.cn L tJ) (B.cn L tI) (B.cn L tK) (B.cn L tM) (B.cn L tL) (B.cn L tN) λZ h=>h)) ∅ (ev2 B)
def ev4:Ev S λS'=>BP S' sO:=by
 have L:=D3 (K:=K) (hl:=Cv) (hm:=Bs) (ev3 B);show B.cons (CG (six (B.cn L lW) (B.cn L lV) (B.cn L lX) (B.cn L lZ) (B.cn L lY) (B.cn L lb) λZ h=>h)) ∅ (ev3 B)
def zS:Ev S λS'=>BP S' eC:=by
 have L:=D3 (K:=K) (hl:=Cv) (hm:=Bs) (ev4 B);show B.cons (CG (two (B.cn L tO) (B.cn L tP))) ∅ (ev4 B)
theorem evV:Ev S λS'=>Jo S' De:=λS' g=>eE (B.tab.grow g) λk hk S'' a=>by
 have L:=D3 (K:=K) (hl:=Cv) (hm:=Bs) (zS B);have E:=λk=>D3 (K:=K) (hl:=xm k) (hm:=Bs) (zS B);show ir (p:=λk=>DR S'' 76 (Gv k) (Bi k)) (B.cn L tQ S'' (g.trans a)) (B.cn L tR S'' (g.trans a)) (B.cn L tS S'' (g.trans a)) (B.cn L tU S'' (g.trans a)) (B.cn L tT S'' (g.trans a))
  (B.cn L tV S'' (g.trans a)) (B.cn (E 6) tX S'' (g.trans a)) (B.cn (E 7) tW S'' (g.trans a)) (B.cn (E 8) tY S'' (g.trans a)) k hk
theorem CA (h:Ev S λS'=>BP S' l)(hc:G8 K cls):Ev S λS'=>CB K S' (Hx l cls hl hm De):=QI h hc (evV B)
def ev7:Ev S λS'=>BP S' se:=by
 have L:=CA B (hl:=Cv) (hm:=Bs) (zS B) cls_nil;show B.cons (CG (two (λS' g=>Wo (B.cn L AAi S' g) (B.cn L lf S' g) nofun) λS' g=>Wo (B.cn L lh S' g) (B.cn L li S' g) λZ=>B.cn L ll S' g)) ∅ (zS B)
def ue:Ev S λS'=>BP S' eQ:=by
 have L:=CA B (hl:=Cv) (hm:=Bs) (ev7 B) cls_nil;show B.cons (CG (two (B.cn L lm) (B.cn L lq))) ∅ (ev7 B)
def ev9:Ev S λS'=>BP S' xt:=by
 have P:=CA B (hl:=o4) (hm:=Bs) (ue B) cls_nil;have E:=λb=>CA B (hl:=o3 b) (hm:=Bs) (ue B) cls_nil;show B.cons (FT (B.cn P tZ)) ∅ <| B.cons (CG (two (B.cn (E false) lr) (B.cn (E true) lu))) ∅ (ue B)
def yu:Ev S λS'=>BP S' fA:=by
 have L:=CA B (hl:=Cv) (hm:=Bs) (ue B) cls_nil;show B.cons (CG (two (B.cn L lw) (B.cn L lz))) ∅ (ev9 B)
def yv:Ev S λS'=>BP S' fC:=by
 have L:=λb=>CA B (hl:=o8 b) (hm:=Bs) (yu B) cls_nil;show B.cons (CG (two (B.cn (L false) hU) (B.cn (L true) hW))) ∅ (yu B)
def yw:Ev S λS'=>BP S' fE:=by
 have L:=λb=>CA B (hl:=fB b) (hm:=Bs) (yv B) cls_nil;have M:=CA B (hl:=Cv) (hm:=Bs) (ue B) cls_nil;show B.cons (CG (two (B.cn M mA) (B.cn M mB))) ∅ <| B.cons (CG (two (B.cn (L false) hY) (B.cn (L true) hZ))) ∅ (yv B)
def yx:Ev S λS'=>BP S' fQ:=by
 have L:=CA B (hl:=Cv) (hm:=Bs) (yw B) cls_nil;show B.cons (CG (two (B.cn L td) (B.cn L te))) ∅ <| B.cons (CG (mQ (B.cn L Y9) (B.cn L ZA) (B.cn L ZB) (B.cn L ZC))) ∅ (yw B)
theorem mR:G8 K [(Bz,CI)]:=QH B.cls λC f e=>by
 rw[Sa] at e;cases q:C==Bz with
 |true=>rw[q] at e;ext e;cases Fz.mp q;kernel_rfl
 |false=>rw[q] at e;ext e
theorem JO:G8 K H6:=QH B.cls λC f e=>by
 rw[Sa];cases q:C==Gk with
 |true=>cases Fz.mp q;show absurd e (by rw[show H6.lookup Gk=none from by kernel_rfl];show nofun)
 |false=>show e
theorem yy:G8 K lR:=QH B.cls λC f e=>by
 rw[show lR=[(Gk,DW)] from rfl,Sa] at e;cases q:C==Gk with
 |true=>rw[q] at e;ext e;cases Fz.mp q;kernel_rfl
 |false=>rw[q] at e;ext e
def ZU:Ev S λS'=>BP S' Mf:=by
 have L:=CA B (hl:=Cv) (hm:=Bs) (yx B) (mR B);have M:=CA B (hl:=Cv) (hm:=Bs) (ue B) cls_nil;show B.cons (CG (two (B.cn M th) (B.cn M ti))) ∅ <| B.cons (CG (mQ (B.cn L mF) (B.cn L mC) (B.cn L mG) (B.cn L mD))) ∅ (yx B)
theorem Vh {Z}{n}{a}{l m}{sp}(L:Ev S λS'=>CB K S' Z)(e:l.length=m.length)(b:∀p,sp.args p=[.d (.tup (l.map .int)),.d (.tup (m.map .int))])(c:∀p,sp.cells p=[])(h:Is (H4 Z n a l m sp)):Ev S λS'=>DR S' (n+1) a sp:=λS' g=>sv (B.tab.grow g) (λS'' d=>L S'' (g.trans d)) e b c h.h
def ev15:Ev S λS'=>BP S' pF:=by
 have L:Ev S λS'=>CB K S' NN:=CA B (ZU B) (mR B);have R0:Ev S λS'=>DR S' 40 B2 (Cs 0):=Vh B L (l:=[1,1]) (m:=[0,1]) rfl (λZ=>rfl) (λZ=>rfl) iC;have R1:Ev S λS'=>DR S' 40 B2 (Cs 1):=Vh B L (l:=[1,-1]) (m:=[0,1]) rfl (λZ=>rfl) (λZ=>rfl) iE;have a:Ev S λS'=>DR S' 40 B2 (Cs 2):=Vh B L (l:=[1,2]) (m:=[0,1]) rfl (λZ=>rfl) (λZ=>rfl) iF;show B.cons (SW (R:=λj=>j<3) (LH 0) (XS R0 R1 a)) ∅ (ZU B)
theorem Ga {Z}{n}{a}{sp}{D j}(L:Ev S λS'=>CB K S' Z)(X:∀F,TT.fns.lookup a=some F->H3 K S F D j)(h:Is (DC Z n a sp D j)):Ev S λS'=>DR S' (n+1) a sp:=λS' g=>s4 (B.tab.grow g) (λS'' b=>L S'' (g.trans b)) (λF e=>(X F e).grow g) h.h
def ev16:Ev S λS'=>BP S' pG:=by
 have L:Ev S λS'=>CB K S' M0:=CA B (ev15 B) (mR B);show B.cons (SW (R:=λj=>j<3) (LH 1) (XS (Ga B L B.le iG) (Ga B L B.le iH) (Ga B L B.le iI))) ∅ <|
  B.cons (SW (R:=λj=>j<3) (LH 1) (XS (Ga B L B.ne iJ) (Ga B L B.ne iK) (Ga B L B.ne iL))) ∅ <|
  B.cons (SW (R:=λj=>j<3) (LH 1) (XS (Ga B L B.eq iM) (Ga B L B.eq iN) (Ga B L B.eq iO))) ∅ (ZU B)
def ev17:Ev S λS'=>BP S' pH:=by
 have L:=CA B (hl:=Cv) (hm:=Bs) (ev16 B) (JO B);show B.cons (FT λS' g=>Yn (ir (B.cn L iP S' g) (B.cn L iQ S' g) (B.cn L iR S' g) (B.cn L iS S' g) (B.cn L iT S' g) (B.cn L iU S' g) (B.cn L iV S' g) (B.cn L iW S' g) (B.cn L iX S' g))) ∅ (ZU B)
def yz:Ev S λS'=>BP S' fu:=by
 have L:=CA B (hl:=Cv) (hm:=Bs) (ev17 B) (JO B);have N:=λb c=>CA B (hl:=fO b c) (hm:=Bs) (ZU B) (mR B);show B.cons (CG (mQ (B.cn (N false false) ZE) (B.cn (N false true) ZD) (B.cn (N true false) ZG) (B.cn (N true true) ZF))) ∅ <|
  B.cons (CG (two (B.cn L Vb) (B.cn L Vc))) ∅ (ZU B)
def ev19:Ev S λS'=>BP S' pI:=by
 have L:=CA B (hl:=Cv) (hm:=Bs) (yz B) (JO B);show B.cons (CG (mQ (B.cn L iY) (B.cn L iZ) (B.cn L ib) (B.cn L ic))) ∅ (yz B)
def ev20:Ev S λS'=>BP S' pJ:=by
 have L:=D3 (K:=K) (S:=S) (hl:=Cv) (hm:=Bs) Ic;show B.cons (FT (B.cn L mH)) ∅ (ev19 B)
def evL:Ev S λS'=>BP S' yZ:=by
 have R:=λb=>CA B (hl:=pM b) (hm:=pL b) (ev20 B) (JO B);have a:=D3 (K:=K) (S:=S) (hl:=Cv) (hm:=Bs) Ic;have D:=B.cn a tm;have L1:Ev S λS'=>CB K S' ZL1:=D3 (B.cons (CG (two D λS' g=>pO (D S' g) 3)) ∅ Ic);have c:=D3 (K:=K) (S:=S) (hl:=pP) (hm:=Bs) Ic;show B.cons (CG λk=>?_) ∅ <| B.cons (FT (B.cn L1 mK)) ∅ <| B.cons (FT λS' g=>lO (ir (B.cn a ZI S' g) (B.cn a ZH S' g) (B.cn a ZJ S' g) (B.cn a ZK S' g)
  (B.cn a ZM S' g) (B.cn a ZN S' g) (B.cn a ZO S' g) (B.cn a ZP S' g) (B.cn a ZQ S' g))) ∅ <| B.cons (FT (B.cn c tn)) ∅ <|
  B.cons (CG (two (B.cn (R false) mI) (B.cn (R true) mJ))) ∅ Ic
 match k with
 |0=>show D
 |1=>show λS' g=>pO (D S' g) 5
 |k+2=>show λS' g=>yU (D S' g) (k+2)
end
def KK (P:Params)(x y z:Obj):Frag:=Gd P++[(1824,x),(1866,y),(1911,z)]
def B8 {α β:Type} [BEq α] [LawfulBEq α] {a:α}{b:β}:∀ {l:List (α×β)},l.lookup a=some b->(a,b)∈l:=by
 intro l
 induction l with
 |nil=>intro e;cases e
 |cons p l ih=>
  obtain⟨c,d⟩:=p;intro e;rw[Sa] at e
  split at e
  · rename_i q;cases e;rw[Fz.mp q];show Sg ..
  · show Zo _ (ih e)
section
variable (P:Params)(x y z:Obj)
def y2 {h}(k:Known P h)(hx:h.get? 1824=some x)(b:h.get? 1866=some y)(hz:h.get? 1911=some z):(KK P x y z).In h:=by
 intro a o e
 rcases List.mem_append.mp (B8 e) with m|m
 · show k.hot _ m
 · simp only[QP,List.not_mem_nil,or_false,Prod.mk.injEq] at m
   rcases m with ⟨rfl,rfl⟩|⟨rfl,rfl⟩|⟨rfl,rfl⟩<;>assumption
def strsOk (l:List Dt)(vs:List Value):Bool:=match l with|[]=>vs.isEmpty|t::l=>match t,vs with|.str s,.str s' _::vs=>s==s'&&strsOk l vs|_,_=>false
def pZ (v:Value):Option String:=match v with|.type n=>some n|_=>none
def pc (d:Data):Option (Array Value):=match d with|.seq vs _=>some vs|_=>none
def gOk (K:Frag)(a:AV)(r:Option (Option Value)):Bool:=
 ((Br (Ff a) Zi).bind QX).any (λi=>(r.join.bind QX).any (· ==i))||((Br (Ff a) jI).any (λs=>(r.join.bind QY).any (· ==s))||(Br (Ff a) JS).any λl=>((r.join.bind QX).bind λb=>List.lookup b K).any λo=>(pZ o.cls).any (· ==("tuple":String))&&(pc o.data).any λv=>strsOk l v.toList)
def tw:(ow.all λp=>gOk (KK P x y z) p.2 (nsIn (KK P x y z) mainGlobals p.1)):=∅
def y3:(sI.map λp=>(nsIn (KK P x y z) mainGlobals p.1,bootBuiltins p.1))=sI.map λp=>(some none,some (BN p.2)):=∅
def tx:(Rj.map λp=>((KK P x y z).lookup p.1).map (·.data))=Rj.map λp=>some (.func p.2.fd):=∅
def tz:(Rj.all λp=>(QX p.2.fd.code).any λc=>(NW.lookup c).any (· ==p.2.fd.qualname)):=∅
def mU:(Rj.map λp=>(p.2.fd.body,p.2.fd.scope.isCoroutine,p.2.fd.scope.isGenerator,p.2.fd.scope.kind,p.2.fd.globals,p.2.fd.builtins))=Rj.map λp=>(.stmts p.2.body,false,false,.function,mainGlobals,builtinsNs):=∅
def mV v:(Rj.map λp=>bindArgs p.2.fd ⟨(List.range p.2.params.length).map v,[]⟩)=Rj.map λp=>(pure (p.2.params.zip ((List.range p.2.params.length).map v))):=∅
def t3:(PN.map λp=>p.2.map λq=>(findIn (KK P x y z) (.ref p.1) q.1,typeIn (KK P x y z) (.ref q.2)))=PN.map λp=>p.2.map λq=>(some (some (.ref q.2)),some (.type "function")):=∅
def y4:(YV.map λp=>(findIn (KK P x y z) (.ref p.1) "__getattribute__",findIn (KK P x y z) (.ref p.1) "__getattr__",hasDictIn (KK P x y z) p.1,p.2.map λn=>findIn (KK P x y z) (.ref p.1) n))=
 YV.map λp=>(some (some (.builtin "object.__getattribute__")),some none,true,p.2.map λZ=>some none):=∅
def t4:(YV.map λp=>(findIn (KK P x y z) (.ref p.1) "__setattr__",plainOver (KK P x y z) p.1))=YV.map λZ=>(some (some (.builtin "object.__setattr__")),true):=∅
def t5:(((Gk,DW)::H6).map λp=>(makesIn (KK P x y z) p.1,findIn (KK P x y z) (.ref p.1) "__init__",typeIn (KK P x y z) (.ref p.2)))=((Gk,DW)::H6).map λp=>(true,some (some (.ref p.2)),some (.type "function")):=∅
def t6:([0,1,2].map λj=>((YV.lookup (Fi j 1849 1936 1894)).map λl=>l.contains ("scope":Str)&&l.contains ("number":Str),(PN.lookup (Fi j 1849 1936 1894)).bind λl=>l.lookup ("propagate":Str)))=[0,1,2].map λj=>(some true,some (Fi j 1832 1919 1877)):=∅
end
def iu {h}:∀ {l:List Dt} {vs:List Value},strsOk l vs->Ad h l vs:=by
 intro l
 induction l with
 |nil=>intro vs e;show NU.mp e
 |cons t l ih=>
  intro vs e;cases t with
  |str s=>
   cases vs with
   |nil=>cases e
   |cons v vs=>
    cases v with
    |str s' u=>
     obtain⟨e1,a⟩:=DQ.mp e;cases Fz.mp e1;show⟨_,_,rfl,⟨_,rfl⟩,ih a⟩
    |_=>cases e
  |_=>cases e
def JP {v}{i}(e:QX v=some i):v=.ref i:=by
 show Ap (p:=λx=>v=.ref x) ?_ e;cases v<;>first|show rfl|trivial
def iv {v}{s}(e:QY v=some s):∃t,v=.str s t:=by
 show Ap (p:=λx=>∃t,v=.str x t) ?_ e;cases v<;>first|show⟨_,rfl⟩|trivial
def iw {v}{n}(e:pZ v=some n):v=.type n:=by
 show Ap (p:=λx=>v=.type x) ?_ e;cases v<;>first|show rfl|trivial
def jA {d}{vs}(e:pc d=some vs):∃n,d=.seq vs n:=by
 show Ap (p:=λx=>∃n,d=.seq x n) ?_ e;cases d<;>first|show⟨_,rfl⟩|trivial
theorem Mx {α:Type}{o:Option α}{f:α->Bool}(e:o.any f):∃x,o=some x/\f x:=Option.any_eq_true .. |>.mp e
theorem SX {α β:Type}{o:Option α}{f:α->Option β}{y}(e:o.bind f=some y):∃x,o=some x/\f x=some y:=Option.bind_eq_some_iff.mp e
def t7 {o:Option Value}{q:Str}(e:(o.bind QY).any (· ==q)):∃t,o=some (.str q t):=by
 show AH (Mx e) λx h1 a=>?_;show AH (SX h1) λv h3 b=>?_;show(iv b).imp λt h=>by rw[h3,h,Fz.mp a]
theorem jB {α:Type}{r:Option (Option α)}{x:α}(e:r.join=some x):r=some (some x):=Option.join_eq_some_iff.mp e
def mW {K:Frag}{h:Heap}(X:K.In h){a:AV}{r:Option (Option Value)}(e:gOk K a r):∃v,r=some (some v)/\Cg [] h a v:=by
 rcases Bool.or_eq_true .. |>.mp e with e|e
 · show AH (Mx e) λi h1 f=>?_;show AH (Mx f) λj h3 c=>?_;show AH (SX h1) λw g k=>?_;show AH (Bc g) λd m p=>?_;show AH (SX h3) λu q x=>?_;show⟨u,jB q,?_⟩;rw[DM m,Gw p,JP k,JP x,Fz.mp c];rfl
 rcases Bool.or_eq_true .. |>.mp e with e|e
 · show AH (Mx e) λs h1 f=>?_;show AH (Bc h1) λd h3 c=>?_;show(t7 f).elim λt g=>⟨_,jB g,?_⟩
   rw[DM h3,D6 c];show⟨t,rfl⟩
 · show AH (Mx e) λl h1 f=>?_;show AH (Mx f) λo h3 c=>?_;show AH (Mx (aR c)) λv g k=>?_;show AH (Mx (aL c)) λn y z=>?_;show AH (Bc h1) λd m p=>?_;show AH (SX h3) λb q x=>?_;show AH (SX q) λu A B=>?_;show⟨u,jB A,?_⟩;rw[DM m,Ci p,JP B];show⟨_,_,rfl,⟨_,X _ _ x,Fz.mp z▸iw y,jA g⟩,iu k⟩
def XT {q:Str}{o:Obj}(e:JU q o):∃cl d vs b t tf,o=⟨cl,d,.fields vs,b⟩/\vs[1]?=some (.str q t)/\vs[2]?=some (.str "/claim/cut.py" tf):=by
 show AH (Mx e) λvs h1 c=>?_;show(t7 (aL c)).elim λt h3=>(t7 (aR c)).elim λu f=>?_;obtain⟨cl,d,a,b⟩:=o;have g:a=.fields vs:=by
  show Ap (p:=λx=>a=.fields x) ?_ h1;cases a<;>first|show rfl|trivial
 subst g;show⟨_,_,_,_,_,_,rfl,h3,f⟩
theorem ZV:∀k,J9 k∈[0,1,2]
 |0|1|2|3|4|5=>by decide
 |_+6=>show 2∈[0,1,2] by decide
def ZW (vals:List Value):(List.range vals.length).map (λi=>(vals[i]?).getD .none)=vals:=by
 apply List.ext_getElem?;intro i;rw[Vm]
 by_cases h:i<vals.length
 · rw[List.getElem?_range h];simp[FA h]
 · rw[uH (by rw[uG];omega),uH (by omega)];rfl
theorem ZY {α β:Type}{f g:α->β}{l:List α}(h:l.map f=l.map g){p:α}(m:p∈l):f p=g p:=List.map_inj_left.mp h p m
theorem IC {α β:Type}{a c:α}{b d:β}(h:(a,b)=(c,d)):a=c/\b=d:=Prod.mk.injEq .. ▸h
section
variable {P:Params}{x y z:Obj}{S:St}
theorem tab_of (k:Known P S.h₀)(X:(KK P x y z).In S.h₀)(hb:∀n:Str,n≠"__name__"->S.mb n=bootBuiltins n):BX (KK P x y z) S TT where
 X:=X
 glob:=λn av e=>by
  obtain⟨v,e1,a⟩:=mW X (QL.mp (tw P x y z) _ (B8 e));show⟨v,mg_of X S.g e1,a⟩
 blt:=λn p e=>by
  have m:=B8 e;obtain⟨e1,a⟩:=IC (ZY (y3 P x y z) m);show⟨mg_none_of X S.g e1,(hb n λq=>?_).trans a⟩;subst q;show nomatch (show TT.blt.lookup ("__name__":Str)=none by kernel_rfl).symm.trans e
 fns:=λf F e=>by
  have m:=B8 e;have e1:=ZY (tx P x y z) m;obtain⟨o,ho,hd⟩:=XX.mp e1;obtain⟨b1,g⟩:=IC (ZY mU m);obtain⟨g,h⟩:=IC g;obtain⟨h,r⟩:=IC h;obtain⟨r,s⟩:=IC r;obtain⟨s,w⟩:=IC s;show⟨⟨o,X _ _ ho,hd⟩,?_,b1,g,h,r,s,w,λvals hl=>?_⟩
  · have a:=QL.mp tz _ m;show AH (Mx a) λc hc a=>?_;show AH (Mx a) λq hq u=>?_;cases Fz.mp u;show AH (k.cod _ (B8 hq)) λo ho hi=>?_;show Ld (XT hi) λcl d vs H t tf A h1 Z=>?_;subst A;show⟨c,_,vs,t,JP hc,ho,rfl,h1⟩
  · have b:=ZY (mV λi=>(vals[i]?).getD .none) m;dsimp only at b;rw[<-hl,ZW] at b;show b
 meths:=λC l m f e B=>IC (ZY (ZY (t3 P x y z) (B8 e)) (B8 B))
 cls:=λC l e=>by
  obtain⟨e1,a⟩:=IC (ZY (y4 P x y z) (B8 e));obtain⟨a,b⟩:=IC a;obtain⟨b,D⟩:=IC b;show⟨e1,a,b,λn hn=>ZY D hn⟩
 sets:=λC l e=>IC (ZY (t4 P x y z) (B8 e))
 virt:=λj=>by
  have t:=ZV j;obtain⟨e1,a⟩:=IC (ZY t6 t);obtain⟨l,h1,E⟩:=XX.mp e1;obtain⟨ms,h3,G⟩:=Option.bind_eq_some_iff.mp a;show⟨l,ms,h1,h3,G,E⟩
theorem t8:G8 (KK P x y z) ((Gk,DW)::H6):=λC f e=>by
 obtain⟨e1,a⟩:=IC (ZY (t5 P x y z) (B8 e));show⟨e1,IC a⟩
def y5:(nsIn (KK P x y z) mainGlobals "super",bootBuiltins "super",nsIn (KK P x y z) cStatics "thirdparty.any",(pw.main.scope.names.lookup ("super":Str)).isSome,typeIn (KK P x y z) (.ref AK),fnIn (KK P x y z) AK,(pw.main.file:Str))=
 (some none,some (Value.type "super"),some none,false,some (Value.type "function"),true,("/claim/cut.py":Str)):=∅
def SY:List (Fn×Addr×Addr×Addr):=[(fnOf LR,B0,1824,1813),(fnOf LY,B1,1911,1900),(fnOf LU,Dr,1866,1855)]
def t9:(SY.map λq=>((clsIn (KK P x y z) q.2.1).isSome,mroIn (KK P x y z) q.2.1 (.ref q.2.1),ks_superIn (KK P x y z) q.2.1 q.2.1 "__init__",q.1.fd.code,q.1.fd.closure.lookup ("__class__":Str),(KK P x y z).lookup q.2.2.2 |>.map (·.data)))=
 SY.map λq=>(true,some true,some (some (Value.ref AK)),Value.ref q.2.2.1,some q.2.2.2,some (Data.cell (some (.ref q.2.1)))):=∅
def uA:(SY.map λq=>(((q.1.fd.params.posonlyargs++q.1.fd.params.args).head?).map (·.arg),q.1.fd.scope.names.lookup ("self":Str),q.1.fd.scope.names.lookup ("super":Str),q.1.fd.scope.names.lookup ("__class__":Str)))=
 SY.map λZ=>(some ("self":Str),some NameKind.local,some NameKind.globalImplicit,some NameKind.free):=∅
def uB:((KK P x y z).lookup 1824,(KK P x y z).lookup 1911,(KK P x y z).lookup 1866)=(some x,some z,some y):=∅
def Vi (hp:S.prog=pw)(X:(KK P x y z).In S.h₀)(hb:∀n:Str,n≠"__name__"->S.mb n=bootBuiltins n){q}(m:q∈SY){o}{r}(ho:(KK P x y z).lookup q.2.2.1=some o)(hi:JU r o):
 H3 (KK P x y z) S q.1 q.2.1 AK:=by
 obtain⟨k1,a⟩:=IC (y5 (P:=P) (x:=x) (y:=y) (z:=z));obtain⟨a,b⟩:=IC a;obtain⟨b,f⟩:=IC b;obtain⟨f,g⟩:=IC f;obtain⟨g,h⟩:=IC g;obtain⟨h,u⟩:=IC h;obtain⟨l1,l2⟩:=IC (ZY (t9 (P:=P) (x:=x) (y:=y) (z:=z)) m);obtain⟨l2,l3⟩:=IC l2;obtain⟨l3,i⟩:=IC l3;obtain⟨i,l5⟩:=IC i;obtain⟨l5,v⟩:=IC l5;obtain⟨m1,j⟩:=IC (ZY uA m);show Ld (XT hi) λcl d vs E t tf w Z A=>?_;subst w;obtain⟨B,k,l⟩:=XX.mp v;obtain⟨ar,p,s⟩:=XX.mp m1;show⟨⟨mg_none_of X S.g k1,(hb _ (by decide+kernel)).trans a⟩,um.mp l1,l2,l3,⟨g,h⟩,b,by rw[hp];show f,⟨_,_,_,_,_,_,_,i,ho,A,by rw[hp,u];show uK _⟩,?_,⟨ar,p,s⟩,?_⟩
 · obtain⟨c,F,G,C⟩:=B;cases l;show⟨_,_,_,_,l5,k⟩
 · obtain⟨j,D⟩:=IC j;show⟨j,IC D⟩
end
theorem My {F}{a}{G}(h:TT.fns.lookup a=some G)(e:TT.fns.lookup a=some F):F=G:=M1 (e.symm.trans h)
def mX {P}{S}(hp:S.prog=pw)(k:Known P S.h₀)(hb:∀n:Str,n≠"__name__"->S.mb n=bootBuiltins n):∃K,JN K S:=by
 show AH (k.cod (1824,"LinearLe.__init__") (LK.mp ∅)) λx hx a=>?_;show AH (k.cod (1866,"LinearEq.__init__") (LK.mp ∅)) λy b c=>?_;show AH (k.cod (1911,"LinearNe.__init__") (LK.mp ∅)) λz hz d=>?_;have X:=y2 P x y z k hx b hz;obtain⟨s1,s2⟩:=IC (uB (P:=P) (x:=x) (y:=y) (z:=z));obtain⟨s2,s3⟩:=IC s2;show⟨KK P x y z,tab_of k X hb,t8,λF e=>?_,λF e=>?_,λF e=>?_⟩
 · rw[My (G:=fnOf LR) ∅ e];show Vi hp X hb (q:=(fnOf LR,B0,1824,1813)) (by unfold SY;show .head _) s1 a
 · rw[My (G:=fnOf LY) ∅ e];show Vi hp X hb (q:=(fnOf LY,B1,1911,1900)) (by unfold SY;show .tail _ (.head _)) s2 d
 · rw[My (G:=fnOf LU) ∅ e];show Vi hp X hb (q:=(fnOf LU,Dr,1866,1855)) (by unfold SY;show .tail _ (.tail _ (.head _))) s3 c
def y6 (hl:l.length<=63):Is (IP (run TT ZX 258) Go yq (Yz (.raw l)) (G7 (yr l) ())):=by
 have e:(l.length<=1000/\(BH l none (some 20)).length<=1000/\rf (LM 0 (yr l) () (BH (BH l none (some 20)) none none))/\(BH (BH l none (some 20)) none none).length<=20)=IP (run TT ZX 258) Go yq (Yz (.raw l)) (G7 (yr l) ()):=∅
 show AQ e ⟨EX hl ∅,il,rfl,SU⟩
theorem Vj (h:I1 M x ih fr σ (cW j fr o k))(hq:∀p,M.rel p q)(hc:∀p,M.cells p q=τ):Is (j fr (.ss o) τ k):=⟨
 AG h λZ h=>B4 h λp Z Z hk=>by
  have z:j fr (.ss o) (M.cells p q) k:=(hk p rfl).2 q (hq p);rw[hc p] at z;show z⟩
def mY (hq:q.length<=20):Is (run TT ZL 259 Go (.ss gh) (Oa q) (X2 λav σ=>Gj 1 [] av σ OZ.outs)):=by
 have h:We TT ZL 260 Hz OZ ([]:List El):=tv.h ([]:List El) (QQ _);show Vj (M:=tB) (Y0 []▸h) (q:=q) (λp=>hq) λp=>rfl
def zT:List Nat:=1000::(List.range 12).map (· +1)
def mZ q:r7 zT (Oa q) (Oa q):=by
 have e:(LM 0 tB ([]:List El) q=LM 0 tB ([]:List El) q)=uW zT (Oa q) (Oa q) [] Ob.ok:=∅
 have h:uW zT (Oa q) (Oa q) [] Ob.ok:=(AQ e rfl).h;show let ⟨_,h1,a⟩:=db h;(a h1).2
def ma q:((Oa q).length,(Oa q).head?,(Oa q).tail.all Option.isSome)=(13,some none,true):=∅
section
variable {S:St}{K:Frag}{A:Around}
def lock {c:At S}{l q}(hc:c.σ=some (.raw l)::(Oa q).tail):∃(H:Heap) (k:∀b o,S.h₀.get? b=some o->H.get? b=some o) (t:At (S.on H k)),t.σ=Oa q/\t.s=c.s/\c.h.objs.size::c.γ.tail=t.γ/\
 ∃a,c.γ[0]?=some a/\H.get? a=some (Oo l):=by
 obtain⟨e1,n⟩:=IC (ma q);obtain⟨n,y⟩:=IC n;obtain⟨γ,σ,s,R⟩:=c;dsimp only at hc;subst hc;have hl:=R.len;rw[Zh,List.length_tail,e1] at hl;cases γ with
 |nil=>ext hl
 |cons a g=>
  have hg:g.length=12:=Nat.succ.inj hl;have hq:Oa q=none::(Oa q).tail:=by
   cases z:Oa q with
   |nil=>rw[z] at e1;ext e1
   |cons x r=>rw[z] at n;ext n;rfl
  have k:∀b o,S.h₀.get? b=some o->(wo s.heap g).get? b=some o:=λb o e=>by
   rw[Dq]
   · show R.keep b o e
   · cases z:g.contains b with|false=>rfl|true=>show nomatch (R.fresh b (Zo _ (LK.mp z))).symm.trans e
  have A:Bd zT (a::g) (s.heap.objs.size::g):=by
   intro p i hp b hb;cases p with
   |zero=>ext hp;rw[uH (by rw[Zh,hg];decide)] at hb;ext hb
   |succ p=>
    have hp:((List.range 12).map (· +1))[p]?=some i:=hp;rw[Vm] at hp;show AH (XX.mp hp) λj d f=>?_;subst f;obtain⟨B,h⟩:=nC.mp d;rw[List.getElem_range] at h;subst h;show hb
  have up:∀i ao,live (Oa q) i ao->∃j,i=j+1/\(Oa q).tail[j]?=some (some ao):=λi ao e=>by
   cases i with
   |zero=>unfold live at e;rw[hq] at e;cases e
   |succ j=>unfold live at e;rw[hq] at e;show⟨j,rfl,e⟩
  have C:FC (S.on (wo s.heap g) k) (s.heap.objs.size::g) (Oa q) s:=by
   show⟨λb o e=>HV e,by rw[e1,Zh,hg],λi ao b u D=>?_,λb hb=>?_,λi j ao ao' b hi d u ej=>?_,R.gens,R.os⟩
   · show AH (mZ q i ao u) λo ho E=>?_;show AH (up i o ho) λj f d=>?_;subst f;show E _ _ _ _ _ A _ (R.cells (j+1) o b d D)
   · rcases QP.mp hb with rfl|hb
     · cases z:(wo s.heap g).get? s.heap.objs.size with|none=>show z|some o=>show nomatch (Bw s.heap).symm.trans (HV z)
     · show N6 _ (LK.mpr hb)
   · show AH (up i ao hi) λF f v=>?_;subst f;show AH (up j ao' d) λG f w=>?_;subst f;show R.apart (F+1) (G+1) ao ao' b v w u ej
  show⟨wo s.heap g,k,⟨_,_,_,C⟩,rfl,rfl,rfl,a,rfl,?_⟩;obtain⟨J,vs,ho,⟨_,rfl⟩,_⟩:=R.cells 0 (.raw l) a rfl rfl;rw[Dq]
  · show ho
  · cases z:g.contains a with
    |false=>rfl
    |true=>
     obtain⟨j,d⟩:=ul.mp (LK.mp z);have m:j<(Oa q).tail.length:=by
      rw[List.length_tail,e1];have:=(nC.mp d).1;lia
     obtain⟨ao,I⟩:=um.mp (QL.mp y _ (Zu m));have:=R.apart 0 (j+1) (.raw l) ao a rfl ((FA m).trans (congrArg some I)) rfl d;ext this
def gen1 {m}{ih}{M}{p:M.P}{x}{j}{fr:Fr}{env}{c:At S}(G:Good S m ih)(hr:Ay A m)(d:AR c.γ fr env)(g:Is (IP ih fr x c.σ (G7 M p)))(hn:c.γ.length=M.n)
 {E} {Q} (q:∀(q:M.Q) (a:At S),a.σ=M.cells p q->M.rel p q->c.le a->wpAny S.mdl A (execs j env) Q E a.s):wpAny S.mdl A (execs (x::j) env) Q E c.s:=by
  show wpAny_execs_cons (Jg G hr d g.h _ _ λfl a f b l2 rf=>?_);cases fl with
  |next=>
   ext rf;show B4 (show G6 M.n M.e sE (M.cells p) (λZ σ=>M.extQ p σ) (LM 0 M p) [] a.σ (λq Z=>M.rel p q) from b) λy js F h=>q y F.at rfl h (F.le0 l2 hn)
  |_=>show b.elim
def gen2 {m:Nat}{ih:Ih}{P:Type}{p:P}{outs:List (Re P)}{o:List Stmt}{fr:Fr}{env:Env}{c:At S}(G:Good S m ih)(hr:Ay A m)(d:AR c.γ fr env)(h:Is (ih fr (.ss o) c.σ (X2 λav σ=>Gj 1 p av σ outs)))
 (ho:∀av σ,Rf outs p av σ->av=.d (bl true)) {E:F3} {Q:Result->Shared->Prop} (q:∀c':At S,Q (.ok (.ret (.bool true))) c'.s):
 wpAny S.mdl A (execs o env) (λf s'=>Q (.ok (.ret (match f with|.ret v=>v|_=>.none))) s') E c.s:=by
 show G.st hr d h.h _ _ λfl a f b j rf=>?_;have fin:∀av v,a.VR av v->Gj 1 p av a.σ outs->Q (.ok (.ret v)) a.s:=λav v g hk=>GH g hk λi js tc F x r=>by
  cases ho _ _ x;have r:v=.bool true:=r;subst r;show q a
 cases fl with
 |next=>ext rf;show fin (.d nn) .none rfl b
 |ret av=>obtain⟨v,rfl,r⟩:=rf;show fin av v r b
 |_=>show b.elim
def Et.up (h:∀(i:Nat) (a:Addr),0<i->γ[i]?=some a->γ'[i]?=some a)(r:Et γ l j):(l.all λx=>Nat.blt 0 x.2)->Et γ' l j:=by
 induction r with
 |nil=>show λZ=>.nil
 |cons e _ ih=>show λhb=>let ⟨b1,b⟩:=DQ.mp hb; .cons (h _ _ (DF b1) e) (ih b)
theorem AR.up (h:∀(i:Nat) (a:Addr),0<i->γ[i]?=some a->γ'[i]?=some a)(b:AR γ fr env)(hf:(Nat.blt 0 fr.lid&&Nat.blt 0 fr.fid&&fr.cells.all λx=>Nat.blt 0 x.2)):AR γ' fr env:=
 ⟨b.kind,Si b.is λL F cl h1 c h3 d=>⟨L,F,cl,h _ _ (DF (aL (aL hf))) h1,h _ _ (DF (aR (aL hf))) c,h3.up h (aR hf),d⟩⟩
def mf:(Nat.blt 0 Go.lid&&Nat.blt 0 Go.fid&&Go.cells.all λx=>Nat.blt 0 x.2):=∅
theorem y7 (B:JN K S):CB K S ZX:=QI (l:=[]) Ic (yy B) (λZ Z=>Hh) S (.refl S)
theorem y8 (B:JN K S){S'}(g:Grows S S'):CB K S' ZL:=QI (evL B) (yy B) (λZ Z=>Hh) S' g
def uC:TT.fns.lookup Hz=some NO:=∅
def mh (B:JN K S){c:At S}{a:Addr}{l:List El}(hl:l.length<=63)(g:c.γ=[a])(p:c.σ=[some (.raw l)])(hr:Ay A 261){Q:Result->Shared->Prop}
 (E:∀s':Shared,(∀b o,S.h₀.get? b=some o->s'.heap.get? b=some o)->s'.heap.get? a=some (Oo l)->s'.gens= #[]->s'.os=S.os->Q (.ok (.ret (.bool true))) s'):
 codeAny S.mdl A (.call (.ref Hz) ⟨[.ref a],[]⟩) Q c.s:=by
 have d:=B.tab.fns Hz NO uC;show AH d.obj λo ho hd=>?_;have rs:c.VRs [.ref 0] [.ref a]:=⟨_,_,rfl,⟨a,rfl,by show(g)▸?_;rfl⟩,rfl⟩
 have r:NO.params.length=1:=∅
 show codeAny_call_function (by have:=hr.depth;lia) (c.R.keep _ _ ho) hd d.co d.gen d.body ?_ ?_
 · show py d.rec_ λc' F s G hc t u hq=>?_;show⟨c',F,s,G,hc,c.R.keep _ _ t,u,hq⟩
 rw[d.bind [.ref a] r.symm];have h0:Jc NO.fd Hz NO.params [.ref 0] c.σ λfr σ=>fr=Go/\σ=Yz (.raw l):=by
  rw[p,tH];show⟨rfl,rfl⟩
 show B9 (HP d.kind d.glob d.blt rs h0 λI c1 f h1 l1 h Z=>⟨S.nl.keeps c1.R.keep,codeAny_func ?_⟩);obtain⟨rfl,h1⟩:=h1;show(gi)▸?_;have m:=hr.deeper (env:=f);have J:Good S 258 (run TT ZX 258):=Eu B.tab (y7 B) 258;have hm:Is (IP (run TT ZX 258) Go yq c1.σ (G7 (yr l) ())):=by show(h1)▸?_;show y6 hl
 have hn:c1.γ.length=(yr l).n:=by rw[c1.R.len,h1];rfl
 show gen1 J (m.le ∅) h hm hn λq L M hq l2=>?_;obtain⟨H,k,N,h3,v,w,O,x,P⟩:=lock M;have R:O=a:=by
  have e1:L.γ[0]?=some a:=(l1.pre.trans l2.pre).get (by show(g)▸?_;rfl);show M1 (x.symm.trans e1)
 subst R;have z:AR N.γ Go f:=(h.mono l2.pre).up (λi b hi e=>by
  rw[<-w];cases i with
  |zero=>ext hi
  |succ j=>rw[List.getElem?_cons_succ,List.getElem?_tail];show e) mf
 have C:=S.grows k;have T:Good (S.on H k) 259 (run TT ZL 259):=Eu (B.tab.grow C) (y8 B C) 259;have D:=mY hq;rw[<-h3] at D;rw[<-v];show gen2 T (m.le ∅) z D (λav σ ⟨o,ho,y,_,e,_⟩=>by cases Vo.mp ho;show e) λn=>E n.s (λb o e=>n.R.keep b o (k b o e)) (n.R.keep _ _ P) n.R.gens n.R.os
end
theorem Za {r:OpenRow}{q:Program}{c:List Str}{j:Shared->Bool}{XP:(Str->Option Value)->Heap->Prop}{N:Nat}(left:LeftO r.prog q c j (λZ=>()) (λZ=>()) N)
 (m:∀s,j s=true->XP (s.heap.nsMap mainGlobals) s.heap) (g:∀mg h h',XP mg h->(∀b o,h.get? b=some o->h'.get? b=some o)->XP mg h') (hr:r.records=[]) (k1:r.wellSaid=true)
 (ok:(chainsOk q&&opensWell r.prog&&(frees r.toRowW&&r.within.isEmpty))=true) (hb:r.prog.bare) (k:r.toRowW.promised)
 (i:∀h:Heap,h.isNs mainGlobals=true->∀mg,h.Ns mainGlobals mg->mg=h.nsMap mainGlobals->XP mg h->isTheDefsW r.prog h r.name)
 (call:∀(w:World) (s₁:Shared) (mg mb:Str->Option Value) (a:Str->Option Addr) (l:ExcName->Option Value),s₁.heap.Ns mainGlobals mg->s₁.heap.Ns builtinsNs mb->s₁.heap.NoLimit->(∀n:Str,n≠"__name__"->mb n=bootBuiltins n)->XP mg s₁.heap->
   ∀(args:List WData) (vs:List Value),r.claim.pre args=true->WellAll w.params s₁.heap vs args->s₁.gens= #[]->∃f,mg r.name=some f/\
    wpAny (model r.prog w) callerA (PySem.call f vs) (λv s'=>GoodWG r.claim a l args s₁ (.ok (.ret v)) s') (λe s'=>GoodWG r.claim a l args s₁ (.error e) s') s₁):r.Holds:=
 ⟨k1,k,open_anyG (r:=r.toRowW) (run:=λf vs=>PySem.call f vs) (XP:=XP) (YP:=λZ Z=>True) (tree:=λvs=>do match<-nsGet mainNs r.name with
   |some f=>do ret (<-PySem.call f vs)
   |none=>unsupported "claim.caller:no-such-global") left (λZ Z Z=>trivial) (λZ Z Z Z Z=>trivial) m g (λZ Z=>recFacts_nil hr) (by show(hr)▸?_;cases r.writes<;>rfl) ok hb k
   (λvs w s mg f Q E hg hf h=>An (wpAny_nsGet hg (by show(hf)▸?_;show An (NR h (λZ Z x=>B9 x) λZ Z x=>x))))
   (λw s hg G n hn=>by
     obtain rfl:n=r.name:=by split at hn<;>simp_all
     show i s.heap hg _ G.T.g rfl G.X)
   λw s₀ s₁ mg mb G Z args vs as d Z L Z=>call w s₁ mg mb _ _ G.T.g G.T.b G.T.nolimit G.T.builtins G.X args vs d L.well L.gens⟩
abbrev Sf:OpenRow:=PySem.Challenge.rw_nz0036_01.row
def Zb:∀ {ns:List Int} {vs:List Value},WellAll P h vs (ns.map .int)->∃l:List El,vs=l.map Tj/\l.length=ns.length:=by
 intro ns
 induction ns with
 |nil=>intro vs x;ext x;show⟨[],rfl,rfl⟩
 |cons i ns ih=>
  intro vs x;cases x with
  |cons a b=>
   show AH (ih b) λl c hl=>?_;subst c;cases a with
   |int i t=>show⟨⟨false,[],i,(t:Int),default⟩::l,rfl,congrArg Nat.succ hl⟩
theorem XU:∀l:List El,AY γ h (l.map (Ch .int)) (l.map Tj)|[]=>rfl|e::l=>⟨_,_,rfl,⟨_,rfl⟩,XU l⟩
def uD args:Sf.claim.pre args=(WShape.hasAll [] args [.list .int]&&WTm.holds [] (.and (.not (.lt (.lit (.int 63)) (.len (.arg 0)))) (.lit (.bool true))) {args:=args}):=∅
def post_eq args j:Sf.claim.post args (.bool true) j=true:=∅
def Zc args c:Sf.claim.raises args c=false:=∅
def jC (h:Sf.claim.pre args=true):∃ns:List Int,args=[.list (ns.map .int)]/\ns.length<=63:=by
 rw[uD] at h;obtain⟨h1,b⟩:=DQ.mp h;show Bj (hasAllW_cons h1) λd r a h3 c=>?_;subst a;cases hasAllW_nil c;show AH (hasW_list h3) λxs a f=>?_;subst a;obtain⟨ns,rfl⟩:=items_int f;show⟨ns,rfl,?_⟩;show Classical.byContradiction λq=>?_;have q:W.less? (.int 63) (.int (ns.length:Int))=some true:=congrArg some (Fy (show (63:Int)<ns.length by lia));have e:WTm.holds [] (.and (.not (.lt (.lit (.int 63)) (.len (.arg 0)))) (.lit (.bool true))) {args:=[.list (ns.map .int)]}=false:=by
  have e1:WTm.value [] (.and (.not (.lt (.lit (.int 63)) (.len (.arg 0)))) (.lit (.bool true))) {args:=[.list (ns.map .int)]}=some (.bool false):=by
   simp[WTm.value,q]
  unfold WTm.holds;rw[e1]
 rw[e] at b;ext b
theorem Vk:Sf.toRowW.promised:=⟨[.list []],∅,∅⟩
def ok_l:(chainsOk qs&&opensWell Sf.prog&&(frees Sf.toRowW&&Sf.within.isEmpty))=true:=by
 rw[wi,show opensWell Sf.prog=true from opw]
 kernel_rfl
def mi:pw.theDef "law"=some (Bo.params,match Bo.body with|.stmts l=>l|_=>[],Bo.scope):=∅
def uE:(Bo.name,Bo.qualname,Bo.body,Bo.globals,Bo.closure,Bo.builtins,Bo.defaults,Bo.kwdefaults)=
 (("law":Str),("law":Str),.stmts (match Bo.body with|.stmts l=>l|_=>[]),mainNs,[],builtinsNs,Value.none,Value.none):=∅
def mj:(Bo.params.defaults,kwWritten? Bo.params.kwonlyargs Bo.params.kw_defaults)=([],some []):=∅
def XV P:((Gd P).lookup 3126,nsIn (Gd P) mainGlobals "law")=(some (zB Bo),some (some (.ref 3126))):=∅
def mq (P:Params):(zB Bo).data=.func Bo:=∅
theorem NQ (h:(a,b)=(c,d)):a=c/\b=d:=Prod.mk.injEq .. ▸h
theorem Vl (k:Known P h):Frag.In (Gd P) h:=λZ Z e=>k.hot _ (B8 e)
def uF (hg:h.isNs mainGlobals=true)(G:h.Ns mainGlobals mg)(e:mg=h.nsMap mainGlobals)(k:Known P h):isTheDefsW pw h "law":=by
 obtain⟨e1,a⟩:=NQ (XV P);obtain⟨d1,b⟩:=NQ mj;have f:=uE;obtain⟨f1,f⟩:=NQ f;obtain⟨c,f⟩:=NQ f;obtain⟨d,f⟩:=NQ f;obtain⟨g,f⟩:=NQ f;obtain⟨i,f⟩:=NQ f;obtain⟨j,f⟩:=NQ f;obtain⟨l,m⟩:=NQ f;show⟨3126,zB Bo,Bo,_,_,_,(Pin.globalOf_eq hg _).trans (e▸mg_of (Vl k) G a),Vl k _ _ e1,mq P,mi,f1,c,rfl,d,rfl,g,i,j,.inl ⟨d1,l⟩,[],b,.inl ⟨rfl,m⟩⟩
theorem mr P:((Gd P).all λx=>match x.2.cls with|.type n=>n !="list"|_=>true)=true:=∅
def LI (c:h.get? a=some (Oo l))(e:h.get? b=some o)(ne:o≠Oo l):(wo h [a]).get? b=some o:=by
 rw[Dq]
 · show e
 · cases z:[a].contains b with
   |false=>rfl
   |true=>
    cases Vo.mp (LK.mp z);show absurd (M1 (e.symm.trans c)) ne
def Known.wo (k:Known P h)(b:h.get? a=some (Oo l)):Known P (wo h [a]):=by
 show⟨λx hx=>LI b (k.hot x hx) λe=>?_,λc hc=>?_,?_⟩
 · have:=QL.mp (mr P) x hx;rw[e] at this;show absurd (show ("list" !="list")=true from this) ∅
 · show AH (k.cod c hc) λo ho hi=>?_;show⟨o,LI b ho λe=>?_,hi⟩;rw[e] at hi;ext hi
 · show LI b k.sys λe=>absurd (Value.type.inj (show Value.type "dict"=Value.type "list" from congrArg Obj.cls e)) ∅
theorem jD (n:h.Ns b m)(c:h.get? a=some (Oo l)):(wo h [a]).Ns b m:=
 let ⟨o,es,f,e,d,r⟩:=n;⟨o,es,f,LI c e (λq=>by rw[q] at d;ext d),d,r⟩
def jE w s₁ mg mb u C (G:s₁.heap.Ns mainGlobals mg)(s:s₁.heap.Ns builtinsNs mb)(nl:s₁.heap.NoLimit)(hb:∀n:Str,n≠"__name__"->mb n=bootBuiltins n)
 (X:∃P,Known P s₁.heap) args vs (hp:Sf.claim.pre args=true) (W:WellAll w.params s₁.heap vs args) (hg:s₁.gens= #[]):∃f,mg "law"=some f/\
   wpAny (model Sf.prog w) callerA (PySem.call f vs) (λv s'=>GoodWG Sf.claim u C args s₁ (.ok (.ret v)) s') (λe s'=>GoodWG Sf.claim u C args s₁ (.error e) s') s₁:=by
  obtain⟨P,k⟩:=X;show AH (jC hp) λns m hl=>?_;subst m;cases W with
  |cons W b=>
   ext b;cases W with
   | @list a F _ d t=>
     show AH (Zb t) λl m p=>?_;subst m;have d:s₁.heap.get? a=some (Oo l):=d
     let S:St:={prog:=Sf.prog,w:=w,h₀:=wo s₁.heap [a],mg:=mg,mb:=mb,os:=s₁.os,g:=jD G d,b:=jD s d,nl:=let ⟨x,n,q⟩:=nl;⟨x,jD n d,q⟩,md:=⟨_,(k.wo d).sys⟩}
     have R:FC S [a] [some (.raw l)] s₁:=by
      show⟨λb o e=>HV e,rfl,λi ao b r y=>?_,λb hb=>N6 _ (LK.mpr hb),λi j ao ao' b hi A Z Z=>?_,hg,rfl⟩
      · cases i with|zero=>cases r;cases y;show⟨Oo l,l.map Tj,d,⟨rfl,rfl⟩,XU l⟩|succ i=>ext r
      · cases i with
        |zero=>cases j with|zero=>rfl|succ j=>ext A
        |succ i=>ext hi
     obtain⟨K,B⟩:=mX (S:=S) (P:=P) ∅ (k.wo d) hb;show⟨.ref Hz,mg_of (Vl k) G (NQ (XV P)).2,wpAny_call (mh B (c:=⟨[a],[some (.raw l)],s₁,R⟩) (by rw[p,<-Ei (f:=WData.int)] at *;simpa using hl) rfl rfl ⟨by decide+kernel,by decide+kernel,rfl⟩ λs' h1 D h3 E=>?_)⟩;show⟨.inl ⟨.bool true,.bool true,[],rfl,Zc _,.bool true,post_eq _ _,λZ=>⟨List.nodup_nil,λZ h=>nomatch h⟩⟩,.of_keep λb o e=>?_,E,.of_eq h3⟩
     by_cases q:b=a
     · subst q;rw[d] at e;ext e;show D
     · show h1 b o ?_;change (wo s₁.heap [a]).get? b=some o;rw[Dq]
       · show e
       · cases z:[a].contains b with|false=>rfl|true=>show absurd (Vo.mp (LK.mp z)) q
theorem Zd (k1:Sf.wellSaid=true):Sf.Holds:=
 Za (XP:=λZ h=>∃P,Known P h) (q:=qs) wu (λs h=>wq h) (λ_ _ _ ⟨P,k⟩ a=>⟨P,k.keeps a⟩) rfl k1 ok_l wc Vk (λh hg mg G e ⟨_,k⟩=>uF hg G e k) jE
theorem Ze:PySem.Challenge.rw_nz0036_01.Holds:=holds_law zx Zd
end
end
end Mine.Internal
theorem PySem.Challenge.cw_nz0036_01_holds : PySem.Challenge.rw_nz0036_01.Holds :=
 Mine.Internal.Ze
