import PyProof.Rows.All
import KE.KSliceW
import KE.KSuper
import OpenK.AllK
import PyProof.AttrMissHeap
import PyProof.SliceMore
import Wide.All
import Wide.FinOn
import Lean
import PySem.Challenge.RW_no0333_03
set_option linter.all false
set_option genSizeOf false
set_option genSizeOfSpec false
set_option genInjectivity false
local macro_rules
|`(mutual$c*end)=>
 let f(n:Lean.Name)(y:Lean.TSyntax `command):Lean.Syntax:=y.raw.rewriteBottomUp λs=>if s.getId==`x then Lean.mkIdent n else s.setInfo .none
 if c[0]!.raw.isOfKind ``Lean.Parser.Command.universe then return Lean.mkNullNode (("PySem.Challenge.pw_no0333_03"::"PySem.Challenge.rw_no0333_03"::("env_41 view_39 heap_39 heap_46 heap_767 sts_49 sts_93 sts_125 sts_156 sts_171 sts_229 sts_281 sts_462 sts_681 sts_760 tree_47 tree_92 tree_124 tree_155 tree_170 tree_228 tree_278 tree_382 tree_458 tree_596 tree_677 tree_759 tree_766".splitOn " "++(List.range' 43 724).map λi=>"o_"++toString i).map ("Mine.DS."++·)).toArray.map λs=>f ("PySem.W.Fast.tw"++toString s.toName.hash).toName c[1]!) else if c[0]!.raw.isOfKind ``Lean.Parser.Command.open then return Lean.mkNullNode ((c.extract 1 c.size).map (f `x)) else Lean.Macro.throwUnsupported
local macro_rules |`(tactic|show $t:term)=>`(tactic|refine $t)
section
mutual
universe u
theorem x:True:=trivial
end
set_option Elab.async false
open PySem PySem.W PyProof.Rows
set_option maxRecDepth 100000
set_option maxHeartbeats 8000000
namespace Mine
open_top DS for PySem.Challenge.rw_no0333_03
end Mine
end
section
namespace Mine
mutual
open A
def inl{a b:Int}(h:¬a<b):b<=a:=Int.not_lt.mp h
def Nr{a b:Int}(h:¬a<=b):b<a:=Int.not_le.mp h
def VG{a b:Int}(h:b<=a):¬a<b:=Int.not_lt.mpr h
def IM{a b:Nat}(h:a<=b):(a:Int)<=(b:Int):=Int.ofNat_le.mpr h
def JK{a b:Nat}(h:a<b):(a:Int)<(b:Int):=Int.ofNat_lt.mpr h
def lf{a b M R:Nat}(h:a<=b)(v:M+b<=R+a):M<=R:=Nat.le_of_add_le_add_right (Nat.le_trans (Nat.add_le_add_left h M) v)
def Aa{a b M R:Int}(h:a<=b)(v:M+b<=R+a):M<=R:=Int.le_of_add_le_add_right (Int.le_trans (Int.add_le_add_left h M) v)
@[elab_as_elim]theorem AU{c:Sort _}{motive:c->Prop}{a b:c}(h:a=b)(m:motive a):motive b:=h▸m
def fl{a b:Nat}(h:b<a->False):a<=b:=Nat.not_lt.mp h
end
end Mine
namespace Mine
mutual
open A
def L'{x:Int}{k:Nat}(h:-(k:Int)<=x)(a:x<=k):x.natAbs<=k:=by cases x with|ofNat n=>exact Int.ofNat_le.mp a|negSucc n=>exact Int.ofNat_le.mp (Int.le_of_neg_le_neg h)
def fh{x:Int}{k:Nat}(h:-(k:Int)<x)(a:x<k):x.natAbs<k:=by cases x with|ofNat n=>exact Int.ofNat_lt.mp a|negSucc n=>exact Int.ofNat_lt.mp (Int.lt_of_neg_lt_neg h)
def Vv{x:Int}{k:Nat}(h:x.natAbs<=k):-(k:Int)<=x:=Int.neg_le_of_neg_le (Int.le_trans (Int.natAbs_neg x▸Int.le_natAbs) (Int.ofNat_le.mpr h))
def Vw{x:Int}{k:Nat}(h:x.natAbs<=k):x<=(k:Int):=Int.le_trans Int.le_natAbs (Int.ofNat_le.mpr h)
def Ie{i:Int}{n:Nat}(h:0<=i)(a:i<(n:Int)):i.toNat<n:=(Int.toNat_lt h).mpr a
def XI{i:Int}(h:0<=i):i=(i.toNat:Int):=(Int.toNat_of_nonneg h).symm
def cn{a b:Nat}(h:(a:Int)<=(b:Int)):a<=b:=Int.ofNat_le.mp h
def cnt{a b:Nat}(h:(a:Int)<(b:Int)):a<b:=Int.ofNat_lt.mp h
def Qz{a b:Nat}(h:b<=a)(n:¬a=b):b<a:=Nat.lt_of_le_of_ne h λe=>n e.symm
def eA{a b:Int}(h:b<=a)(n:¬a=b):b<a:=(Int.lt_or_eq_of_le h).resolve_right λe=>n e.symm
def Vu{a b c:Nat}{G:Prop}(h:a+2<=c+b)(e:c<=1)(d:b<=a):G:=absurd (Nat.le_trans h (Nat.le_trans (Nat.add_le_add e d) (Nat.le_of_eq (Nat.add_comm 1 a)))) (Nat.not_succ_le_self (a+1))
def bz{a E c:Int}:a+(-1*E+0)=-c↔E=a+c:=by rw[Int.neg_one_mul,Int.add_zero];exact⟨λh=>by rw[<-Int.neg_neg c,<-h,Int.neg_add,Int.neg_neg,<-Int.add_assoc,Int.add_right_neg,Int.zero_add],λh=>by rw[h,Int.neg_add,<-Int.add_assoc,Int.add_right_neg,Int.zero_add]⟩
def XB{a b c:Int}(j:c=a+-1*b):c<=0↔a<=b:=j▸Int.neg_one_mul b▸(⟨Int.le_of_sub_nonpos,Int.sub_nonpos_of_le⟩:a-b<=0↔a<=b)
def d8{i:Int}(h:0<=i)(a:i<=1):i=0\/i=1:=(Int.lt_or_eq_of_le a).imp (λq=>Int.le_antisymm (Int.le_of_lt_add_one q) h) id
def fj{I c:Int}:decide (-I<=-c-1)=!decide (I<=c):=((decide_eq_decide (p:=-I<=-c-1) (q:=¬I<=c)).mpr ⟨λh=>Int.not_le.mpr (Int.lt_of_neg_lt_neg (Int.lt_of_le_sub_one h)),λh=>Int.le_sub_one_of_lt (Int.neg_lt_neg (Int.not_le.mp h))⟩).trans decide_not
def OM{k n:Nat}(h:n<=k):k=k-n+n:=(Nat.sub_add_cancel h).symm
end
end Mine
namespace Mine
universe u1 u2 u3 u4 u5
mutual
open A
def AV{a b:Prop}{G:Prop}(h:a/\b)(g:a->b->G):G:=g h.1 h.2
def BG{a b c:Prop}{G:Prop}(h:a/\b/\c)(g:a->b->c->G):G:=g h.1 h.2.1 h.2.2
def CW{a b c d:Prop}{G:Prop}(h:a/\b/\c/\d)(g:a->b->c->d->G):G:=g h.1 h.2.1 h.2.2.1 h.2.2.2
def HG{a b c d e:Prop}{G:Prop}(h:a/\b/\c/\d/\e)(g:a->b->c->d->e->G):G:=g h.1 h.2.1 h.2.2.1 h.2.2.2.1 h.2.2.2.2
def Kx{a b c d e f:Prop}{G:Prop}(h:a/\b/\c/\d/\e/\f)(g:a->b->c->d->e->f->G):G:=g h.1 h.2.1 h.2.2.1 h.2.2.2.1 h.2.2.2.2.1 h.2.2.2.2.2
def Ac{c:Sort u1}{b:c->Prop}{G:Prop}(h:∃a,b a)(g:∀a,b a->G):G:=h.elim λa h=>g a h
def AJ{d:Sort u1}{b c:d->Prop}{G:Prop}(h:∃a,b a/\c a)(g:∀a,b a->c a->G):G:=h.elim λa h=>g a h.1 h.2
def B3{e:Sort u1}{b c d:e->Prop}{G:Prop}(h:∃a,b a/\c a/\d a)(g:∀a,b a->c a->d a->G):G:=h.elim λa h=>g a h.1 h.2.1 h.2.2
def H0{f:Sort u1}{b c d e:f->Prop}{G:Prop}(h:∃a,b a/\c a/\d a/\e a)(g:∀a,b a->c a->d a->e a->G):G:=h.elim λa h=>g a h.1 h.2.1 h.2.2.1 h.2.2.2
def Ow{i:Sort u1}{b c d e f:i->Prop}{G:Prop}(h:∃a,b a/\c a/\d a/\e a/\f a)(g:∀a,b a->c a->d a->e a->f a->G):G:=h.elim λa h=>g a h.1 h.2.1 h.2.2.1 h.2.2.2.1 h.2.2.2.2
def kI{j:Sort u1}{b c d e f i:j->Prop}{G:Prop}(h:∃a,b a/\c a/\d a/\e a/\f a/\i a)(g:∀a,b a->c a->d a->e a->f a->i a->G):G:=h.elim λa h=>g a h.1 h.2.1 h.2.2.1 h.2.2.2.1 h.2.2.2.2.1 h.2.2.2.2.2
def kJ{k:Sort u1}{b c d e f i j:k->Prop}{G:Prop}(h:∃a,b a/\c a/\d a/\e a/\f a/\i a/\j a)(g:∀a,b a->c a->d a->e a->f a->i a->j a->G):G:=h.elim λa h=>g a h.1 h.2.1 h.2.2.1 h.2.2.2.1 h.2.2.2.2.1 h.2.2.2.2.2.1 h.2.2.2.2.2.2
def kK{l:Sort u1}{b c d e f i j k:l->Prop}{G:Prop}(h:∃a,b a/\c a/\d a/\e a/\f a/\i a/\j a/\k a)(g:∀a,b a->c a->d a->e a->f a->i a->j a->k a->G):G:=h.elim λa h=>g a h.1 h.2.1 h.2.2.1 h.2.2.2.1 h.2.2.2.2.1 h.2.2.2.2.2.1 h.2.2.2.2.2.2.1 h.2.2.2.2.2.2.2
def Eb{d:Sort u1}{e:Sort u2}{c:d->e->Prop}{G:Prop}(h:∃a b,c a b)(g:∀a b,c a b->G):G:=h.elim λa h=>Ac h (g a)
def Cg{e:Sort u1}{f:Sort u2}{c d:e->f->Prop}{G:Prop}(h:∃a b,c a b/\d a b)(g:∀a b,c a b->d a b->G):G:=h.elim λa h=>AJ h (g a)
def Dc{f:Sort u1}{i:Sort u2}{c d e:f->i->Prop}{G:Prop}(h:∃a b,c a b/\d a b/\e a b)(g:∀a b,c a b->d a b->e a b->G):G:=h.elim λa h=>B3 h (g a)
def Gr{i:Sort u1}{j:Sort u2}{c d e f:i->j->Prop}{G:Prop}(h:∃a b,c a b/\d a b/\e a b/\f a b)(g:∀a b,c a b->d a b->e a b->f a b->G):G:=h.elim λa h=>H0 h (g a)
def kL{j:Sort u1}{k:Sort u2}{c d e f i:j->k->Prop}{G:Prop}(h:∃a b,c a b/\d a b/\e a b/\f a b/\i a b)(g:∀a b,c a b->d a b->e a b->f a b->i a b->G):G:=h.elim λa h=>Ow h (g a)
def Xb{k:Sort u1}{l:Sort u2}{c d e f i j:k->l->Prop}{G:Prop}(h:∃a b,c a b/\d a b/\e a b/\f a b/\i a b/\j a b)(g:∀a b,c a b->d a b->e a b->f a b->i a b->j a b->G):G:=h.elim λa h=>kI h (g a)
def kM{l:Sort u1}{m:Sort u2}{c d e f i j k:l->m->Prop}{G:Prop}(h:∃a b,c a b/\d a b/\e a b/\f a b/\i a b/\j a b/\k a b)(g:∀a b,c a b->d a b->e a b->f a b->i a b->j a b->k a b->G):G:=h.elim λa h=>kJ h (g a)
def kN{m:Sort u1}{n:Sort u2}{c d e f i j k l:m->n->Prop}{G:Prop}(h:∃a b,c a b/\d a b/\e a b/\f a b/\i a b/\j a b/\k a b/\l a b)(g:∀a b,c a b->d a b->e a b->f a b->i a b->j a b->k a b->l a b->G):G:=h.elim λa h=>kK h (g a)
def Ox{e:Sort u1}{f:Sort u2}{i:Sort j}{d:e->f->i->Prop}{G:Prop}(h:∃a b c,d a b c)(g:∀a b c,d a b c->G):G:=h.elim λa h=>Eb h (g a)
def HH{f:Sort u1}{i:Sort u2}{j:Sort k}{d e:f->i->j->Prop}{G:Prop}(h:∃a b c,d a b c/\e a b c)(g:∀a b c,d a b c->e a b c->G):G:=h.elim λa h=>Cg h (g a)
def Il{i:Sort u1}{j:Sort u2}{k:Sort l}{d e f:i->j->k->Prop}{G:Prop}(h:∃a b c,d a b c/\e a b c/\f a b c)(g:∀a b c,d a b c->e a b c->f a b c->G):G:=h.elim λa h=>Dc h (g a)
def SE{j:Sort u1}{k:Sort u2}{l:Sort m}{d e f i:j->k->l->Prop}{G:Prop}(h:∃a b c,d a b c/\e a b c/\f a b c/\i a b c)(g:∀a b c,d a b c->e a b c->f a b c->i a b c->G):G:=h.elim λa h=>Gr h (g a)
def kO{k:Sort u1}{l:Sort u2}{m:Sort n}{d e f i j:k->l->m->Prop}{G:Prop}(h:∃a b c,d a b c/\e a b c/\f a b c/\i a b c/\j a b c)(g:∀a b c,d a b c->e a b c->f a b c->i a b c->j a b c->G):G:=h.elim λa h=>kL h (g a)
def Oy{l:Sort u1}{m:Sort u2}{n:Sort o}{d e f i j k:l->m->n->Prop}{G:Prop}(h:∃a b c,d a b c/\e a b c/\f a b c/\i a b c/\j a b c/\k a b c)(g:∀a b c,d a b c->e a b c->f a b c->i a b c->j a b c->k a b c->G):G:=h.elim λa h=>Xb h (g a)
def kP{m:Sort u1}{n:Sort u2}{o:Sort p}{d e f i j k l:m->n->o->Prop}{G:Prop}(h:∃a b c,d a b c/\e a b c/\f a b c/\i a b c/\j a b c/\k a b c/\l a b c)(g:∀a b c,d a b c->e a b c->f a b c->i a b c->j a b c->k a b c->l a b c->G):G:=h.elim λa h=>kM h (g a)
def SF{n:Sort u1}{o:Sort u2}{p:Sort q}{d e f i j k l m:n->o->p->Prop}{G:Prop}(h:∃a b c,d a b c/\e a b c/\f a b c/\i a b c/\j a b c/\k a b c/\l a b c/\m a b c)(g:∀a b c,d a b c->e a b c->f a b c->i a b c->j a b c->k a b c->l a b c->m a b c->G):G:=h.elim λa h=>kN h (g a)
def SG{i:Sort u1}{j:Sort u2}{k:Sort m}{l:Sort n}{e f:i->j->k->l->Prop}{G:Prop}(h:∃a b c d,e a b c d/\f a b c d)(g:∀a b c d,e a b c d->f a b c d->G):G:=h.elim λa h=>HH h (g a)
def SH{j:Sort u1}{k:Sort u2}{l:Sort n}{m:Sort o}{e f i:j->k->l->m->Prop}{G:Prop}(h:∃a b c d,e a b c d/\f a b c d/\i a b c d)(g:∀a b c d,e a b c d->f a b c d->i a b c d->G):G:=h.elim λa h=>Il h (g a)
def Xc{k:Sort u1}{l:Sort u2}{m:Sort o}{n:Sort p}{e f i j:k->l->m->n->Prop}{G:Prop}(h:∃a b c d,e a b c d/\f a b c d/\i a b c d/\j a b c d)(g:∀a b c d,e a b c d->f a b c d->i a b c d->j a b c d->G):G:=h.elim λa h=>SE h (g a)
def kQ{l:Sort u1}{m:Sort u2}{n:Sort p}{o:Sort q}{e f i j k:l->m->n->o->Prop}{G:Prop}(h:∃a b c d,e a b c d/\f a b c d/\i a b c d/\j a b c d/\k a b c d)(g:∀a b c d,e a b c d->f a b c d->i a b c d->j a b c d->k a b c d->G):G:=h.elim λa h=>kO h (g a)
def kR{m:Sort u1}{n:Sort u2}{o:Sort q}{p:Sort r}{e f i j k l:m->n->o->p->Prop}{G:Prop}(h:∃a b c d,e a b c d/\f a b c d/\i a b c d/\j a b c d/\k a b c d/\l a b c d)(g:∀a b c d,e a b c d->f a b c d->i a b c d->j a b c d->k a b c d->l a b c d->G):G:=h.elim λa h=>Oy h (g a)
def SJ{l:Sort u1}{m:Sort u2}{n:Sort q}{o:Sort r}{p:Sort s}{f i j k:l->m->n->o->p->Prop}{G:Prop}(h:∃a b c d e,f a b c d e/\i a b c d e/\j a b c d e/\k a b c d e)(g:∀a b c d e,f a b c d e->i a b c d e->j a b c d e->k a b c d e->G):G:=h.elim λa h=>Xc h (g a)
def kS{m:Sort u1}{n:Sort u2}{o:Sort r}{p:Sort s}{q:Sort t}{f i j k l:m->n->o->p->q->Prop}{G:Prop}(h:∃a b c d e,f a b c d e/\i a b c d e/\j a b c d e/\k a b c d e/\l a b c d e)(g:∀a b c d e,f a b c d e->i a b c d e->j a b c d e->k a b c d e->l a b c d e->G):G:=h.elim λa h=>kQ h (g a)
def kT{n:Sort u1}{o:Sort u2}{p:Sort s}{q:Sort t}{r:Sort u}{f i j k l m:n->o->p->q->r->Prop}{G:Prop}(h:∃a b c d e,f a b c d e/\i a b c d e/\j a b c d e/\k a b c d e/\l a b c d e/\m a b c d e)(g:∀a b c d e,f a b c d e->i a b c d e->j a b c d e->k a b c d e->l a b c d e->m a b c d e->G):G:=h.elim λa h=>kR h (g a)
def s2{d e:Type _}{a c:d}{b H:e}(h:some (a,b)=some (c,H)):a=c/\b=H:=Prod.mk.inj (Option.some.inj h)
def s3{d e f:Type _}{a c:d}{b H:e}{x A:f}(h:some (a,b,x)=some (c,H,A)):a=c/\b=H/\x=A:=⟨(Prod.mk.inj (Option.some.inj h)).1,Prod.mk.inj (Prod.mk.inj (Option.some.inj h)).2⟩
def AS{b:Type _}{a:b}{G:Prop}(h:none=some a):G:=nomatch h
def Ce{b:Type _}{a:b}{G:Prop}(h:some a=none):G:=nomatch h
def Ck{G:Prop}(h:true=false):G:=nomatch h
def AX{G:Prop}(h:false=true):G:=nomatch h
end
end Mine
end
section
set_option tactic.hygienic false
namespace Mine
section
open PySem PySem.W PyProof.Rows PySem.Spec
mutual
open A
@[elab_as_elim]def J:=@Eq.substr
def AA:=@wpAny_bind
def AE:=@congrArg
def AF:=@if_neg
def AG:=@if_pos
def AP:=@Option.some.inj
def AQ:=@Nat.le_trans
def AR:=@List.mem_cons_self
def AW:=@wpAny_pure
def AY:=@Nat.le_of_eq
def AZ:=@Nat.lt_of_lt_of_le
def Ag:=@Nat.le_refl
def Ah:=@List.mem_cons_of_mem
def Ai:=@Nat.lt_of_le_of_lt
def Al:=@List.length_map
def Ar:=@List.mem_map
def As:=@List.mem_singleton
def Av:=@Nat.ne_of_lt
def Ay:=@Nat.le_add_left
def A1:=@Nat.le_succ
def A2:=@Nat.le_add_right
def A5:=@beq_iff_eq
def A7:=@Heap.get?_push_of_some
def A9:=@of_decide_eq_true
def BB:=@Int.le_refl
def BC:=@decide_eq_true
def BE:=@Int.le_trans
def BH:=@Nat.le_of_lt
def BU:=@List.mem_cons
def BW:=@wpAny_mono
def BX:=@Eq.symm
def Bj:=@List.map_map
def Bo:=@List.forall_mem_cons
def Bp:=@List.length_append
def Br:=@Nat.lt_trans
def Bv:=@List.append_nil
def Bx:=@List.mem_append_right
def By:=@Option.map_eq_some_iff
def Bz:=@decide_eq_false
def B4:=@Heap.get?_push_size
def B9:=@List.length_cons
def CE:=@Ne.symm
def CG:=@Option.isSome_iff_exists
def CP:=@List.forall_mem_nil
def CZ:=@List.mem_append_left
def Ci:=@Heap.lt_size
def Co:=@Int.natCast_nonneg
def Cp:=@List.mem_append
def Cq:=@Nat.lt_succ_self
def Cs:=@wpAny_holding
def Ct:=@Bool.and_eq_true
def Cu:=@List.not_mem_nil
def Cy:=@Int.le_of_eq
def Cz:=@List.getElem?_eq_getElem
def C8:=@List.map_append
def C9:=@List.mem_filter
def DD:=@List.all_eq_true
def DN:=@List.append_assoc
def DO:=@List.nodup_cons
def DP:=@Nat.le_of_not_lt
def DQ:=@Prod.mk.inj
def Dd:=@Nat.ne_of_gt
def De:=@Nat.zero_le
def Ds:=@List.any_eq_true
def Dt:=@List.cons_ne_nil
def D6:=@Int.le_of_lt
def D7:=@List.getElem?_map
def D8:=@Nat.not_lt
def EI:=@wpAny_standAt
def EJ:=@Nat.add_le_add_left
def EN:=@beq_self_eq_true
def Ec:=@Int.ofNat.inj
def Ew:=@Nat.succ.inj
def Ex:=@Nat.succ_lt_succ
def FH:=@wpAny_call_entry
def FN:=@Heap.SameBut.update
def FO:=@Iff.rfl
def Fh:=@Bool.eq_iff_iff
def Fo:=@Int.lt_of_lt_of_le
def Fq:=@List.map_cons
def Ft:=@Nat.add_le_add
def Fu:=@Option.bind_eq_some_iff
def GD:=@Bool.or_eq_true_iff
def GO:=@List.filter_cons
def GP:=@List.map_congr_left
def GQ:=@List.map_eq_nil_iff
def GR:=@Nat.le_antisymm
def GU:=@Nat.lt_of_succ_lt
def GV:=@Nat.succ_pos
def Ga:=@congrFun
def Gp:=@wpAny_rule
def Gq:=@wpAny_seqItems
def Gw:=@Heap.size_push
def Gx:=@Int.le_antisymm
def G0:=@List.getD_eq_getElem?_getD
def G1:=@List.nodup_nil
def G3:=@Nat.le_of_lt_succ
def HL:=@Bool.false_ne_true
def HM:=@Classical.byContradiction
def HP:=@Int.add_zero
def HQ:=@Int.lt_of_le_of_lt
def HR:=@Int.ne_of_gt
def HS:=@List.forall_mem_singleton
def HT:=@List.of_mem_zip
def HU:=@Nat.lt_irrefl
def HV:=@Nat.lt_of_succ_lt_succ
def HW:=@Nat.not_lt_zero
def HX:=@Nat.succ_le_succ
def Hz:=@wpAny_setField_rec
def H3:=@Bool.or_eq_true
def H6:=@Int.lt_trans
def H7:=@List.all_cons
def H8:=@List.getElem?_eq_none
def H9:=@List.length_filter_le
def IA:=@Nat.lt_of_lt_of_eq
def Io:=@Array.getElem?_eq_getElem
def Ip:=@Array.length_toList
def Iu:=@Heap.get?_update_self
def Iy:=@Int.ofNat_lt
def Iz:=@List.length_singleton
def I2:=@PySem.F.called_set
def I9:=@beq_eq_false_iff_ne
def JC:=@codeAny_builtin
def Jd:=@wpAny_Call_NameR
def Je:=@wpAny_askSetting
def Jf:=@wpAny_callSpecial?_slot
def Jg:=@wpAny_field
def Jh:=@Around.under_plainId
def Jm:=@Bool.not_eq_true'
def Jp:=@Int.add_le_add
def Jq:=@Int.neg_le_neg
def Jr:=@Int.ofNat_le
def Js:=@Int.zero_add
def Jt:=@List.getElem?_eq_some_iff
def Ju:=@List.mem_range
def Jv:=@List.pairwise_cons
def Jx:=@Nat.add_le_add_right
def Jy:=@Nat.succ_ne_zero
def Kv:=@wpAny_newObj_type
def Kw:=@wpAny_truthy_bool
def LA:=@List.getElem_mem
def LB:=@List.isEmpty_iff
def LC:=@List.size_toArray
def LD:=@Nat.eq_of_beq_eq_true
def LF:=@Nat.le_succ_of_le
def LG:=@Nat.lt_succ_of_lt
def LH:=@Nat.not_lt_of_le
def Lb:=@decide_eq_true_eq
def Md:=@wpAny_Constant_none
def Me:=@wpAny_setState_of
def Mf:=@wpAny_specialOf
def Mi:=@Array.getElem?_toList
def Mj:=@Array.toList_push
def Mo:=@Int.le_of_lt_add_one
def Mr:=@List.getLast?_concat
def Ms:=@List.mem_of_getElem?
def Mt:=@List.reverse_cons
def Mv:=@Nat.add_right_comm
def Mw:=@Nat.le_add_right_of_le
def M4:=@bne_self_eq_false
def Ot:=@wpAny_isNot_plain
def Ou:=@wpAny_pyIter_list
def O0:=@Array.getElem?_eq_none
def O6:=@Int.eq_ofNat_of_zero_le
def O7:=@Int.fmod_eq_emod_of_nonneg
def O8:=@Int.mul_le_mul_of_nonneg_left
def O9:=@List.eq_nil_of_length_eq_zero
def O':=@List.take_of_length_le
def PD:=@Nat.le_of_succ_le_succ
def PF:=@Option.isNone_iff_eq_none
def Sp:=@PyProof.Rows.F.plain_set_update_loop
def Sq:=@PySem.F.slot_tuple_getattribute
end
end
end Mine
open PySem PySem.W PyProof.Rows
set_option maxRecDepth 10000
namespace Mine
noncomputable section
mutual
open A
set_option genCtorIdx false in
inductive V where
 |none
 |bool (b:Bool)
 |int (i:Int)
 |str (s:Str)
 |tup (xs:List V)
 |lst (xs:List V)
 |ref (n:Nat)
inductive SK where
 |num (i:Int)
 |txt (s:Str)
 deriving DecidableEq
set_option genInjectivity true in
inductive CV where
 |int (i:Int)
 |str (s:Str)
 |tup (xs:List CV)
set_option genCtorIdx false in
inductive A' where
 |list (xs:List V)
 |dict (es:List (SK×V)) (ep:Nat)
 |D1 (es:List (CV×V))
 |inst (c:Nat) (as:List (Nat×V))
 |BJ
def SK.num.inj(h:SK.num a=SK.num b):a=b:=by cases h;rfl
def SK.txt.inj(h:SK.txt a=SK.txt b):a=b:=by cases h;rfl
structure St where
 objs:Nat->Option A'
 next:Nat
abbrev Env:=Nat->Option V
noncomputable def upd(e:Env)(i:Nat)(v:V):Env:=λj=>if j=i then some v else e j
noncomputable def clear(e:Env)(p:List Nat):Env:=λj=>if j∈p then none else e j
noncomputable def St.set(f:St)(n:Nat)(o:A'):St:=⟨λm=>if m=n then some o else f.objs m,f.next⟩
noncomputable def St.new(f:St)(o:A'):St:=⟨λm=>if m=f.next then some o else f.objs m,f.next+1⟩
noncomputable def St.pop(f a:St):St:=⟨λm=>if m<f.next then a.objs m else f.objs m,a.next⟩
inductive K2|add|sub|mul|fdiv|mod
inductive H5|eq|ne|lt|le|gt|ge|isin|FE
inductive Bi|len|Qi|isList|isBool|isInt|int|abs|min|max|sum|sorted|tuple|list|dict|JW|kp
inductive Bm|append|extend|sort|get|count|kv
set_option genCtorIdx false in
inductive PT where
 |nm (i:Nat)
 |tup (ps:List PT)
end
set_option genCtorIdx false in
mutual
inductive ME where
 |none
 |bool (b:Bool)
 |int (i:Int)
 |str (s:Str)
 |var (i:Nat)
 |glob (i:Nat)
 |tup (es:List ME)
 |lst (es:List ME)
 |Dm (es:List ME)
 |FA (es:List ME)
 |MA
 |bin (op:K2) (a b:ME)
 |neg (a:ME)
 |not (a:ME)
 |and (es:List ME)
 |or (es:List ME)
 |cmp (op:H5) (a b:ME)
 |isNone (a:ME)
 |KZ (a:ME)
 |chain (a:ME) (kq:H5) (b:ME) (kr:H5) (c:ME)
 |ite (c a b:ME)
 |call (f:Nat) (args:List ME)
 |Af (o:ME) (m:Nat) (args:List ME)
 |new (c:Nat)
 |bi (b:Bi) (args:List ME)
 |bm (o:ME) (m:Bm) (args:List ME)
 |attr (o:ME) (a:Nat)
 |idx (o i:ME)
 |slice (o hi:ME)
 |comp (elt:ME) (gens:List MG) (vars:List Nat)
 |KN (pre:Str) (e:ME)
inductive MI where
 |val (e:ME)
 |DL (e:ME)
 |zip (a b:ME)
inductive MG where
 |mk (p:PT) (it:MI) (ifs:List ME)
end
mutual
open A
noncomputable def ME.ix(m:ME):Nat:=ME.casesOn (motive_1:=λa=>Nat) m 0 (λa=>1) (λa=>2) (λa=>3) (λa=>4) (λa=>5) (λa=>6) (λa=>7) (λa=>8) (λa=>9) 10 (λa a a=>11) (λa=>12) (λa=>13) (λa=>14) (λa=>15) (λa a a=>16) (λa=>17) (λa=>18) (λa a a a a=>19) (λa a a=>20) (λa a=>21) (λa a a=>22) (λa=>23) (λa a=>24) (λa a a=>25) (λa a=>26) (λa a=>27) (λa a=>28) (λa a a=>29) λa a=>30 
set_option genCtorIdx false in
inductive AT where
 |pt (p:PT)
 |attr (o:ME) (a:Nat)
 |sub (o i:ME)
 |tup (ts:List AT)
set_option genCtorIdx false in
inductive MS where
 |assign (t:AT) (e:ME)
 |expr (e:ME)
 |ret (e:ME)
 |OI
 |ite (c:ME) (a b:List MS)
 |for (p:PT) (it:MI) (b:List MS)
 |while (c:ME) (b:List MS)
 |cont
 |Hu (f self c:Nat)
 |fail
set_option genCtorIdx false in
inductive Fl where
 |next
 |cont
 |ret (v:V)
noncomputable def Fl.c{a:Type}(w:Fl)(n c:a)(r:V->a):a:=Fl.casesOn (motive:=λb=>a) w n c r
noncomputable def Bu(b:Bool):Int:=if b then 1 else 0
noncomputable def V.c{a:Type}(x:V)(n:a)(b:Bool->a)(i:Int->a)(s:Str->a)(t l:List V->a)(r:Nat->a):a:=V.casesOn (motive_1:=λd=>a) x n b i s t l r
noncomputable def A'.c{a:Type}(o:A')(l:List V->a)(H:List (SK×V)->Nat->a)(t:List (CV×V)->a)(i:Nat->List (Nat×V)->a)(E:a):a:=A'.casesOn (motive:=λb=>a) o l H t i E
noncomputable def VT(o:A'):Bool:=o.c (λa=>false) (λa a=>true) (λa=>false) (λa a=>false) false
def nd(a:VT o=false){P:Prop}(q:o=.dict z v):P:=Ck ((AE VT q).symm.trans a)
def intOf(x:V):Option Int:=x.c none (λa=>none) some (λa=>none) (λa=>none) (λa=>none) λa=>none
def boolOf(x:V):Option Bool:=x.c none some (λa=>none) (λa=>none) (λa=>none) (λa=>none) λa=>none
def strOf(x:V):Option Str:=x.c none (λa=>none) (λa=>none) some (λa=>none) (λa=>none) λa=>none
def FG(x:V):Option (List V):=x.c none (λa=>none) (λa=>none) (λa=>none) some (λa=>none) λa=>none
def KY(x:V):Option (List V):=x.c none (λa=>none) (λa=>none) (λa=>none) (λa=>none) some λa=>none
def refOf(x:V):Option Nat:=x.c none (λa=>none) (λa=>none) (λa=>none) (λa=>none) (λa=>none) some
noncomputable def listAt(f:St)(n:Nat):Option (List V):=(f.objs n).bind λo=>o.c some (λa a=>none) (λa=>none) (λa a=>none) none
noncomputable def dictAt(f:St)(n:Nat):Option (List (SK×V)×Nat):=(f.objs n).bind λo=>o.c (λa=>none) (λb k=>some (b,k)) (λa=>none) (λa a=>none) none
noncomputable def E9(f:St)(n:Nat):Option (Nat×List (Nat×V)):=(f.objs n).bind λo=>o.c (λa=>none) (λa a=>none) (λa=>none) (λc b=>some (c,b)) none
noncomputable def IV{a:Type}(f:St)(n:Nat)(l:List V->Option a)(H:List (SK×V)->Nat->Option a)(t:List (CV×V)->Option a):Option a:=(f.objs n).bind λo=>o.c l H t (λb b=>none) none
noncomputable def one{a:Type}(D:List V)(w:V->Option a):Option a:=List.casesOn (motive:=λb=>Option a) D none λv r=>List.casesOn (motive:=λb=>Option a) r (w v) λb b=>none
def two{a:Type}(D:List V)(w:V->V->Option a):Option a:=List.casesOn (motive:=λb=>Option a) D none λv r=>one r (w v)
noncomputable def Kb{a:Type}(D:List V)(w:V->Option a)(g:V->V->Option a):Option a:=List.casesOn (motive:=λb=>Option a) D none λv r=>List.casesOn (motive:=λb=>Option a) r (w v) λc r=>List.casesOn (motive:=λb=>Option a) r (g v c) λb b=>none
noncomputable def b2{b c d:Type}(o:Option b)(p:Option c)(F:b->c->d):Option d:=o.bind λa=>p.map (F a)
def Li(w:V->V->Option Bool):List V->List V->Option Bool|[]=>λc=>some c.isEmpty|x::d=>λc=>List.casesOn (motive:=λe=>Option Bool) c (some false) λy c=>b2 (w x y) (Li w d c) λa b=>a&&b
def Hf(M:List V->List V->Option Bool)(x A:V):Option Bool:=x.c none (λa=>A.c none (λb=>some (a==b)) (λj=>some (Bu a==j)) (λc=>some false) (λc=>some false) (λc=>none) λc=>none) (λi=>A.c (some false) (λb=>some (i==Bu b)) (λj=>some (i==j)) (λc=>some false) (λc=>some false) (λc=>none) λc=>none) (λa=>A.c none (λc=>some false) (λc=>some false) (λb=>some (decide (a=b))) (λc=>some false) (λc=>none) λc=>none) (λd=>A.c none (λc=>some false) (λc=>some false) (λc=>some false) (M d) (λc=>none) λc=>none) (λd=>A.c none (λc=>none) (λc=>none) (λc=>none) (λc=>none) (λe=>if d.length=e.length then M d e else some false) λc=>none) λc=>none
def eqT:Nat->List V->List V->Option Bool|0=>λa a=>none|d+1=>Li (Hf (eqT d))
def DH(H:Nat):V->V->Option Bool:=Hf (eqT H)
def Uc(H:Nat):List V->List V->Option Bool:=Li (DH H)
def Dl(x:V):List V->Option Bool|[]=>some false|y::c=>b2 (DH 6 y x) (Dl x c) λa b=>a||b
def Ht(x:V):Option SK:=x.c none (λa=>none) (λi=>some (.num i)) (λs=>some (.txt s)) (λa=>none) (λa=>none) λa=>none
def Wv(x:V):Option SK:=x.c none (λb=>some (.num (Bu b))) (λi=>some (.num i)) (λs=>some (.txt s)) (λa=>none) (λa=>none) λa=>none
def NB(w:V->Option CV):List V->Option (List CV)|[]=>some []|x::c=>b2 (w x) (NB w c) λa b=>a::b
def Pt(B:List V->Option (List CV))(x:V):Option CV:=x.c none (λb=>some (.int (Bu b))) (λi=>some (.int i)) (λs=>some (.str s)) (λc=>(B c).map .tup) (λa=>none) λa=>none
def Pu:Nat->List V->Option (List CV)|0=>λa=>none|d+1=>NB (Pt (Pu d))
def G8(H:Nat):V->Option CV:=Pt (Pu H)
def E4(H:Nat):List V->Option (List CV):=NB (G8 H)
def Cf(x:V):Option CV:=(FG x).bind λa=>(E4 5 a).map .tup
noncomputable def DA(z:List (SK×V))(k:SK):Option V:=(z.find? λe=>decide (e.1=k)).map (·.2)
noncomputable def DZ:List (SK×V)->SK->V->List (SK×V)|[],k,v=>[(k,v)]|(a,b)::r,k,v=>if a=k then(a,v)::r else(a,b)::DZ r k v
open Classical in
def BK(z:List (CV×V))(k:CV):Option V:=(z.find? λe=>decide (e.1=k)).map (·.2)
open Classical in
def putC:List (CV×V)->CV->V->List (CV×V)|[],k,v=>[(k,v)]|(a,b)::r,k,v=>if a=k then(a,v)::r else(a,b)::putC r k v
def Bb(f:St)(x:V):Option Bool:=x.c (some false) some (λi=>some (i !=0)) (λb=>none) (λa=>some !a.isEmpty) (λa=>some !a.isEmpty) λn=>(listAt f n).map λa=>!a.isEmpty
def Cc.EE(f:St)(x:V):Option (List V):=x.c none (λa=>none) (λa=>none) (λa=>none) (λa=>none) some (listAt f)
def Hs(f:St)(x:V):Option (List V):=x.c none (λa=>none) (λa=>none) (λa=>none) some some (listAt f)
def KJ(f:St)(x:V):V:=x.c .none .bool .int .str .tup .lst λn=>((listAt f n).map .lst).getD (.ref n)
def QZ(x:V):Option Int:=x.c none (λb=>some (Bu b)) some (λa=>none) (λa=>none) (λa=>none) λa=>none
def ED:List V->Option (List Int)|[]=>some []|x::r=>(intOf x).bind λi=>(ED r).map (i::·)
def BZ.J8(f:St)(a A:V):Option Bool:=A.c none (λc=>none) (λc=>none) (λc=>none) (Dl a) (Dl a) λn=>IV f n (Dl a) (λb c=>(Ht a).map λk=>(DA b k).isSome) λb=>(Cf a).map λk=>(BK b k).isSome
def ints2{c:Type}(x A:V)(w:Int->Int->Option c):Option c:=(intOf x).bind λa=>(intOf A).bind λb=>w a b
def BZ(f:St)(c:H5)(x A:V):Option Bool:=H5.casesOn (motive:=λd=>Option Bool) c (DH 7 (KJ f x) (KJ f A)) ((DH 7 (KJ f x) (KJ f A)).map (!·)) (ints2 x A λa b=>some (decide (a<b))) (ints2 x A λa b=>some (decide (a<=b))) (ints2 x A λa b=>some (decide (b<a))) (ints2 x A λa b=>some (decide (b<=a))) (BZ.J8 f x A) ((BZ.J8 f x A).map (!·))
noncomputable def lim:Nat:=1000000
def PM(f:St)(u:List V)(A:V):Option V:=(Cc.EE f A).bind λa=>if u.length+a.length<lim then some (.lst (u++a))else none
open Classical in
def Cc(f:St)(c:K2)(x A:V):Option V:=K2.casesOn (motive:=λe=>Option V) c (x.c none (λe=>none) (λa=>(intOf A).map λb=>.int (a+b)) (λe=>none) (λd=>(FG A).bind λg=>if d.length+g.length<lim then some (.tup (d++g))else none) (λd=>PM f d A) λn=>(listAt f n).bind λd=>PM f d A) (ints2 x A λa b=>some (.int (a-b))) (x.c none (λe=>none) (λa=>(intOf A).bind λb=>if IntMulOk a b then some (.int (a*b))else none) (λe=>none) (λe=>none) (λd=>(intOf A).bind λk=>if 0<=k/\k<lim/\d.length*k.toNat<lim then some (.lst (List.replicate k.toNat d).flatten)else none) λe=>none) (ints2 x A λa b=>if b=0\/1073741824<=b.natAbs then none else some (.int (a.fdiv b))) (ints2 x A λa b=>if b=0 then none else some (.int (a.fmod b)))
noncomputable def place(n:Nat)(i:Int):Option Nat:=if 0<=i then if i<n then some i.toNat else none else if-(n:Int)<=i then some (i+n).toNat else none
def itemAt(u:List V)(k:V):Option V:=(intOf k).bind λi=>(place u.length i).bind λk=>u[k]?
def DT(f:St)(x k:V):Option V:=x.c none (λc=>none) (λc=>none) (λc=>none) (λa=>itemAt a k) (λa=>itemAt a k) λn=>IV f n (λa=>itemAt a k) (λb c=>(Ht k).bind λk=>DA b k) λb=>(Cf k).bind λk=>BK b k
noncomputable def MQ(u:List V)(lo a:Option Int):List V:=(sliceRange (sliceBounds lo a none u.length).1 (sliceBounds lo a none u.length).2.1 (sliceBounds lo a none u.length).2.2).filterMap λi=>u[i]?
def OP(f:St)(lo a:Option Int)(x:V):Option V:=(Cc.EE f x).map λb=>.lst (MQ b lo a)
def M3(x:V):Option (Int×Bool):=(FG x).bind λb=>List.casesOn (motive:=λc=>Option (Int×Bool)) b none λk r=>two r λa p=>(strOf k).bind λs=>if s=Str.ofString "bit"then(intOf a).bind λa=>(boolOf p).map λp=>(a,p)else none
def ltV(x A:V):Bool:=((M3 x).bind λa=>(M3 A).map λb=>decide (a.1<b.1)||a.1==b.1&&!a.2&&b.2).getD (((intOf x).bind λa=>(intOf A).map λb=>decide (a<b)).getD false)
def QW(x:V):List V->List V|[]=>[x]|y::a=>if ltV x y then x::y::a else y::QW x a
def Rh:List V->List V|[]=>[]|x::a=>QW x (Rh a)
def Nt(x:V):Bool:=(M3 x).isSome
def Qe(x:V):Bool:=(intOf x).isSome
noncomputable def runK{b:Type}(g:Nat->Nat->Bool):PySem.W.KasT b->b|.ret a=>a|.ask i j k=>runK g (k (g i j))
def OT(u:List V):List V:=if u.length<2 then u else(runK (λi j=>ltV (u.getD i .none) (u.getD j .none)) (PySem.W.kas_sort u.length)).toList.map λi=>u.getD i .none
def DC(u:List V):Option (List V):=if u.length<64 then if u.all Qe then some (Rh u)else if u.all Nt then some (OT u)else none else none
noncomputable def NN(p:List Int):List Int:=p.foldl (λa k=>if k∈a then a else k::a) []
def HE:List V->Option (List (SK×V))|[]=>some []|x::r=>(FG x).bind λa=>two a λk v=>(Ht k).bind λk=>(HE r).map ((k,v)::·)
def HC(b:List (SK×V)):List (SK×V):=b.foldl (λa p=>DZ a p.1 p.2) []
noncomputable def Es:List V->List V->List V|x::a,y::b=>.tup [x,y]::Es a b|_,_=>[]
noncomputable def HF:SK->V|.num i=>.int i|.txt s=>.str s
noncomputable def gm(f:St)(n:Nat):Option Bool:=IV f n (λa=>some true) (λa a=>some false) λa=>none
def Fb(f:St)(w:V->Bool)(x:V):Option V:=x.c none (λb=>some (.bool (w (.bool b)))) (λi=>some (.bool (w (.int i)))) (λs=>some (.bool (w (.str s)))) (λs=>some (.bool (w (.tup s)))) (λs=>some (.bool (w (.lst s)))) λn=>(gm f n).map λp=>.bool (p&&w (.lst []))
def Pa(f:St)(b:Bi)(D:List V):Option V:=Bi.casesOn (motive:=λd=>Option V) b (one D λv=>v.c none (λd=>none) (λd=>none) (λd=>none) (λc=>some (.int c.length)) (λc=>some (.int c.length)) λn=>IV f n (λc=>some (.int c.length)) (λh d=>some (.int h.length)) λd=>none) (one D (Fb f λv=>(FG v).isSome)) (one D (Fb f λv=>(KY v).isSome)) (one D (Fb f λv=>(boolOf v).isSome)) (one D (Fb f λv=>(QZ v).isSome)) (one D λv=>(QZ v).map .int) (one D λv=>(intOf v).map λi=>.int (if i<0 then-i else i)) (Kb D (λv=>(Hs f v).bind λc=>(ED c).bind λg=>g.min?.map .int) λx y=>ints2 x y λa b=>some (.int (if b<a then b else a))) (Kb D (λv=>(Hs f v).bind λc=>(ED c).bind λg=>g.max?.map .int) λx y=>ints2 x y λa b=>some (.int (if b>a then b else a))) (one D λv=>(Hs f v).bind λc=>(ED c).map λg=>.int g.sum) (one D λv=>(v.c none (λd=>none) (λd=>none) (λd=>none) some some λn=>IV f n some (λh d=>some (h.map λe=>HF e.1)) λd=>none).bind λc=>(DC c).map .lst) (one D λv=>(Hs f v).map .tup) (one D λv=>(Hs f v).map .lst) none (one D λv=>(KY v).bind λc=>if c.length<4000 then(ED c).bind λg=>(DC ((NN g).map .int)).map .lst else none) (two D λa b=>(Hs f a).bind λc=>(Hs f b).map λj=>.lst (Es c j))
noncomputable def Qd(b:Bi):Bool:=Bi.casesOn (motive:=λa=>Bool) b false false false false false false false false false false false false false true false false
def Cb(f:St)(b:Bi)(D:List V):Option (V×St):=bif Qd b then one D λv=>(FG v).bind λa=>(HE a).bind λc=>if a.length<lim then some (.ref f.next,f.new (.dict (HC c) 0))else none else(Pa f b D).map λv=>(v,f)
def E3(f:St)(o:V)(m:Bm)(D:List V):Option (V×St):=(refOf o).bind λn=>Bm.casesOn (motive:=λc=>Option (V×St)) m (one D λv=>(listAt f n).bind λa=>if a.length<lim then some (.none,f.set n (.list (a++[v])))else none) (one D λv=>(KY v).bind λb=>(listAt f n).bind λa=>if a.length+b.length<lim then some (.none,f.set n (.list (a++b)))else none) (List.casesOn (motive:=λc=>Option (V×St)) D ((listAt f n).bind λa=>(DC a).map λb=>(.none,f.set n (.list b))) λc c=>none) (two D λk d=>(dictAt f n).bind λe=>(Wv k).map λk=>((DA e.1 k).getD d,f)) none none
def FQ(f:St)(o:V)(m:Bm):Bool:=((refOf o).bind λn=>Bm.casesOn (motive:=λa=>Option Unit) m ((listAt f n).map λa=>()) ((listAt f n).map λa=>()) ((listAt f n).map λa=>()) ((dictAt f n).map λa=>()) none none).isSome
def F9(f:St)(o k v:V):Option St:=(refOf o).bind λn=>IV f n (λb=>(intOf k).bind λi=>(place b.length i).map λj=>f.set n (.list (b.set j v))) (λa c=>(Ht k).bind λk=>if a.length<lim then some (f.set n (.dict (DZ a k v) (c+1)))else none) λa=>(Cf k).bind λk=>if a.length<lim then some (f.set n (.D1 (putC a k v)))else none
noncomputable def DI(as:List (Nat×V))(a:Nat):Option V:=(as.find? λe=>e.1==a).map (·.2)
noncomputable def Dp:List (Nat×V)->Nat->V->List (Nat×V)|[],k,v=>[(k,v)]|(a,b)::r,k,v=>if a=k then(a,v)::r else(a,b)::Dp r k v
end
mutual
def BP:PT->V->Env->Option Env|.nm i,v,a=>some (upd a i v)|.tup b,v,a=>(FG v).bind λc=>J3 b c a
def J3:List PT->List V->Env->Option Env|[],a,b=>if a.isEmpty then some b else none|p::c,a,b=>List.casesOn (motive:=λd=>Option Env) a none λx a=>(BP p x b).bind λb=>J3 c a b
end
mutual
open A
def DB(x:V):Bool:=x.c true (λa=>false) (λa=>false) (λa=>false) (λa=>false) (λa=>false) λa=>false
structure Pg where
 call:Nat->List V->St->Option (V×St)
 glob:Nat->Option V
 Af:Nat->Nat->Option Nat
 init:Nat->Option Nat
 wf:Nat
abbrev Gd:=Option (Nat×A')
def DY(f:St)(g:Gd):Prop:=Option.casesOn (motive:=λa=>Prop) g True λp=>f.objs p.1=some p.2
def rowOf(x:V):Option (List V):=x.c none (λa=>none) (λa=>none) (λa=>none) some some λa=>none
def Nz(f:St)(x:V):Option (List V×Gd):=x.c none (λb=>none) (λb=>none) (λb=>none) (λa=>some (a,none)) (λa=>some (a,none)) λn=>IV f n (λa=>some (a,some (n,.list a))) (λc d=>some (c.map λe=>HF e.1,some (n,.dict c d))) λb=>none
noncomputable def Ia(a b:Int):List V:=(List.range (b-a).toNat).map λ(k:Nat)=>.int (a+k)
open Classical in
def Dr(w:V->St->Option (List V×St))(g:Gd):List V->St->Option (List V×St)|[],a=>some ([],a)|x::b,a=>(w x a).bind λ(c,a)=>if DY a g then(Dr w g b a).map λ(d,a)=>(c++d,a)else none
end
mutual
def AD(P:Pg):ME->Env->St->Option (V×St)
 |.none,_,d=>some (.none,d)|.bool b,_,d=>some (.bool b,d)|.int i,_,d=>some (.int i,d)|.str s,_,d=>some (.str s,d)|.var i,g,d=>(g i).map λv=>(v,d)|.glob i,_,d=>(P.glob i).map λv=>(v,d)|.tup k,g,d=>(C1 P k g d).map λ(j,d)=>(.tup j,d)|.lst k,g,d=>(C1 P k g d).map λ(j,d)=>(.lst j,d)|.Dm k,g,d=>(C1 P k g d).map λ(j,d)=>(.ref d.next,d.new (.list j))|.FA A,g,d=>(Hh P A g d).map λ(E,d)=>(.ref d.next,d.new (.dict (HC E) 0))|.MA,_,d=>some (.ref d.next,d.new (.D1 []))|.bin q a b,g,d=>(AD P a g d).bind λ(x,d)=>(AD P b g d).bind λ(y,d)=>(Cc d q x y).map λv=>(v,d)|.neg a,g,d=>(AD P a g d).bind λ(x,d)=>(intOf x).map λi=>(.int (-i),d)|.not a,g,d=>(AD P a g d).bind λ(x,d)=>(Bb d x).map λb=>(.bool !b,d)|.and k,g,d=>GW P k g d|.or k,g,d=>Hr P k g d|.cmp q a b,g,d=>(AD P a g d).bind λ(x,d)=>(AD P b g d).bind λ(y,d)=>(BZ d q x y).map λb=>(.bool b,d)|.isNone a,g,d=>(AD P a g d).bind λ(x,d)=>some (.bool (DB x),d)|.KZ a,g,d=>(AD P a g d).bind λ(x,d)=>some (.bool !DB x,d)|.chain a B b C c,g,d=>(AD P a g d).bind λ(x,d)=>(AD P b g d).bind λ(y,d)=>(BZ d B x y).bind λt=>match t with|false=>some (.bool false,d)|true=>(AD P c g d).bind λ(z,d)=>(BZ d C y z).map λb=>(.bool b,d)
 |.ite c a b,g,d=>(AD P c g d).bind λ(x,d)=>(Bb d x).bind λt=>match t with|true=>AD P a g d|false=>AD P b g d
 |.call f p,g,d=>(C1 P p g d).bind λ(j,d)=>P.call f j d|.Af o m p,g,d=>(AD P o g d).bind λ(v,d)=>(refOf v).bind λn=>(E9 d n).bind λo=>(P.Af o.1 m).bind λf=>(C1 P p g d).bind λ(j,d)=>P.call f (.ref n::j) d|.new c,_,d=>(P.init c).bind λf=>(P.call f [.ref d.next] (d.new (.inst c []))).bind λ(v,H)=>if DB v then some (.ref d.next,H)else none|.bi b p,g,d=>(C1 P p g d).bind λ(j,d)=>Cb d b j|.bm o m p,g,d=>(AD P o g d).bind λ(v,d)=>if FQ d v m then(C1 P p g d).bind λ(j,d)=>E3 d v m j else none|.attr o a,g,d=>(AD P o g d).bind λ(v,d)=>(refOf v).bind λn=>(E9 d n).bind λo=>(DI o.2 a).map λv=>(v,d)|.idx o i,g,d=>(AD P o g d).bind λ(x,d)=>(AD P i g d).bind λ(y,d)=>(DT d x y).map λv=>(v,d)|.slice o w,g,d=>(AD P o g d).bind λ(x,d)=>(some (none,d)).bind λ(l,d)=>((AD P w g d).bind λ(v,d)=>(intOf v).map λi=>(some i,d)).bind λ(h,d)=>(OP d l h x).map λv=>(v,d)|.comp r u G,g,d=>(FY P (λg d=>AD P r g d) u (clear g G) g d).bind λ(j,d)=>if j.length<lim then some (.lst j,d)else none|.KN D e,g,d=>(AD P e g d).bind λ(v,d)=>(intOf v).bind λi=>if 0<=i/\i<lim then some (.str (Str.empty++D++Str.ofString (toString i)),d)else none
def C1(P:Pg):List ME->Env->St->Option (List V×St)|[],_,a=>some ([],a)|e::c,b,a=>(AD P e b a).bind λ(v,a)=>(C1 P c b a).map λ(d,a)=>(v::d,a)
def Hh(P:Pg):List ME->Env->St->Option (List (SK×V)×St)|k::v::r,b,a=>(AD P k b a).bind λ(x,a)=>(Ht x).bind λx=>(AD P v b a).bind λ(y,a)=>(Hh P r b a).map λ(c,a)=>((x,y)::c,a)|_,_,a=>some ([],a)
def GW(P:Pg):List ME->Env->St->Option (V×St)|[],_,_=>none|[e],b,a=>AD P e b a|e::c,b,a=>(AD P e b a).bind λ(v,a)=>(Bb a v).bind λt=>match t with|true=>GW P c b a|false=>some (v,a)
def Hr(P:Pg):List ME->Env->St->Option (V×St)|[],_,_=>none|[e],b,a=>AD P e b a|e::c,b,a=>(AD P e b a).bind λ(v,a)=>(Bb a v).bind λt=>match t with|true=>some (v,a)|false=>Hr P c b a
def I6(P:Pg):List ME->Env->St->Option (Bool×St)|[],_,a=>some (true,a)|e::c,b,a=>(AD P e b a).bind λ(v,a)=>(Bb a v).bind λt=>match t with|true=>I6 P c b a|false=>some (false,a)
def C2(P:Pg):MI->Env->St->Option (List V×Gd×St)|.val e,d,c=>(AD P e d c).bind λ(v,c)=>(Nz c v).map λ(f,g)=>(f,g,c)|.DL e,d,c=>(AD P e d c).bind λ(v,c)=>(intOf v).bind λi=>if-(lim:Int)<i/\i<lim then some (Ia 0 i,none,c)else none|.zip a b,d,c=>(AD P a d c).bind λ(x,c)=>(AD P b d c).bind λ(y,c)=>(rowOf x).bind λf=>(rowOf y).map λh=>(Es f h,some (c.next,.BJ),c.new .BJ)
def FY(P:Pg)(k:Env->St->Option (V×St)):List MG->Env->Env->St->Option (List V×St)|[],b,_,a=>(k b a).map λ(v,a)=>([v],a)|.mk p d c::gs,b,f,a=>(C2 P d f a).bind λ(e,g,a)=>Dr (λx a=>(BP p x b).bind λb=>(I6 P c b a).bind λ(t,a)=>match t with|true=>FY P k gs b b a|false=>some ([],a)) g e a
end
def MX(P:Pg)(j:ME)(e:Env)(f:St):Option (Bool×St):=(AD P j e f).bind λ(v,f)=>(Bb f v).map λb=>(b,f)
mutual
def Gl(P:Pg):AT->V->Env->St->Option (Env×St)|.pt p,v,c,b=>(BP p v c).map λc=>(c,b)|.attr o a,v,c,b=>(AD P o c b).bind λ(x,b)=>(refOf x).bind λn=>(E9 b n).bind λo=>if o.2.length<100 then some (c,b.set n (.inst o.1 (Dp o.2 a v)))else none|.sub o i,v,c,b=>(AD P o c b).bind λ(x,b)=>(AD P i c b).bind λ(k,b)=>(F9 b x k v).map λb=>(c,b)|.tup d,v,c,b=>(FG v).bind λe=>JZ P d e c b
def JZ(P:Pg):List AT->List V->Env->St->Option (Env×St)|[],a,b,c=>if a.isEmpty then some (b,c)else none|t::d,a,b,c=>List.casesOn (motive:=λe=>Option (Env×St)) a none λx a=>(Gl P t x b c).bind λ(b,c)=>JZ P d a b c
end
mutual
open A
open Classical in
def Cw(w:V->Env->St->Option (Fl×Env×St))(g:Gd):List V->Env->St->Option (Fl×Env×St)|[],b,a=>some (.next,b,a)|x::c,b,a=>(w x b a).bind λ(fl,b,a)=>fl.c (if DY a g then Cw w g c b a else none) (if DY a g then Cw w g c b a else none) λv=>some (.ret v,b,a)
noncomputable def Ih(t:Env->St->Option (Bool×St))(w:Env->St->Option (Fl×Env×St)):Nat->Env->St->Option (Fl×Env×St)|0,_,_=>none|n+1,c,a=>(t c a).bind λ(b,a)=>match b with|false=>some (.next,c,a)|true=>(w c a).bind λ(fl,c,a)=>fl.c (Ih t w n c a) (Ih t w n c a) λv=>some (.ret v,c,a)
end
mutual
def A8(P:Pg):MS->Env->St->Option (Fl×Env×St)
 |.assign t e,h,d=>(AD P e h d).bind λ(v,d)=>(Gl P t v h d).map λ(h,d)=>(.next,h,d)|.expr e,h,d=>(AD P e h d).bind λ(v,d)=>if DB v then some (.next,h,d)else none|.ret e,h,d=>(AD P e h d).map λ(v,d)=>(.ret v,h,d)|.OI,h,d=>some (.ret .none,h,d)|.ite c a b,h,d=>(MX P c h d).bind λ(t,d)=>match t with|true=>Ao P a h d|false=>Ao P b h d
 |.for p i b,h,d=>(C2 P i h d).bind λ(k,g,d)=>Cw (λx h d=>(BP p x h).bind λh=>Ao P b h d) g k h d|.while c b,h,d=>Ih (λh d=>MX P c h d) (λh d=>Ao P b h d) P.wf h d|.cont,h,d=>some (.cont,h,d)|.Hu f j c,h,d=>(h j).bind λv=>(refOf v).bind λn=>(E9 d n).bind λo=>if o.1=c then(P.call f [.ref n] d).bind λ(v,d)=>if DB v then some (.next,h,d)else none else none|.fail,_,_=>none
def Ao(P:Pg):List MS->Env->St->Option (Fl×Env×St)|[],a,b=>some (.next,a,b)|s::c,a,b=>(A8 P s a b).bind λ(fl,a,b)=>fl.c (Ao P c a b) (some (.cont,a,b)) λv=>some (.ret v,a,b)
end
mutual
open A
structure Fn where
 params:List Nat
 body:List MS
 pop:Bool
structure Ee where
 fn:Nat->Option Fn
 glob:Nat->Option V
 Af:Nat->Nat->Option Nat
 init:Nat->Option Nat
 wf:Nat
def GZ:List Nat->List V->Option Env|[]=>λa=>if a.isEmpty then some λc=>none else none|p::b=>λa=>List.casesOn (motive:=λc=>Option Env) a none λv a=>(GZ b a).map λd=>upd d p v
noncomputable def Fl.val(w:Fl):V:=w.c .none .none λv=>v
def Ke(P:Pg)(F:Fn)(D:List V)(f:St):Option (V×St):=(GZ F.params D).bind λb=>(Ao P F.body b f).map λ(fl,_,a)=>(fl.val,if F.pop then f.pop a else a)
def Ae(B:Ee):Nat->Nat->List V->St->Option (V×St)|0,_,_,_=>none|n+1,f,a,b=>(B.fn f).bind λF=>Ke ⟨Ae B n,B.glob,B.Af,B.init,B.wf⟩ F a b
noncomputable def Value.c{a:Type}(v:Value)(n:a)(b:Bool->a)(i:Int->Tok->a)(s:Str->Tok->a)(r:Addr->a):a:=Value.casesOn (motive:=λd=>a) v n n n b i (λd d=>n) s (λd d=>n) (λd=>n) (λd=>n) r
noncomputable def keyOf(v:Value):Option SK:=Value.c v none (λa=>none) (λi a=>some (.num i)) (λs a=>some (.txt s)) λa=>none
noncomputable def SK.Fb(k:SK)(v:Value):Bool:=decide (keyOf v=some k)
def SK.el(h:SK.Fb k v=true){G:SK->_->Prop}(n:∀i t,G (.num i) (.int i t))(s:∀s t,G (.txt s) (.str s t)):G k v:=by have h:=A9 h;cases v with|int i t=>show AP h▸n i t|str x t=>show AP h▸s x t|_=>show AS h
def Xa(h:Q (hashInt (Bu b)) {s with toks:=s.toks+1}):wpAny (model d w) A (pyHash (.bool b)) Q T s:=by have a:s.TypeIs (.bool b) _:=rfl;have c:=rawHash_range (Bu b);show AA ?_;(rewrite[cRoomFor];show J (AF (J (rfl:_=false) HL)) ?_);show AW ?_;show AA (Mf a F.slot_bool_hash.lookup (J (AF (by show HL)) (AA (Mf a F.slot_bool_hash.lookup ?_))));show AA (wpAny_callSpecialIfBoundUnlessNone?_slot a F.slot_bool_hash (FH F.slot_bool_hash a entry_int_hash (show wpAny _ _ (do ret (<-mkInt (rawHash (Bu b)))) _ _ s from wpAny_ret_mkInt ?_) (args_int_hash _)));show(?_:wpAny _ _ (if(_&&_)=_ then _ else _) Q T _);show J (AG (J (BC c.1) (J (BC c.2) rfl))) (AW h)
noncomputable def QR(w:World)(k:SK):Int:=SK.casesOn (motive:=λa=>Int) k hashInt (hashStr w)
def Cj(j:a=r)(h:SeqAt.EqAt A s B v a):SeqAt.EqAt A s B v r:=j▸h
def NL{a:Type}[DecidableEq a]{w:_->a}(b:∀i j,w i=w j->i=j)(i j:Int):(i==j)=decide (w i=w j):=by(rewrite[Fh,A5];show J Lb ?_);show⟨AE w,b i j⟩
def NM{a:Type}[DecidableEq a]{w:_->a}(b:∀i j,w i=w j->i=j)(i j:Str):(i==j)=decide (w i=w j):=by(rewrite[Fh,A5];show J Lb ?_);show⟨AE w,b i j⟩
def ed(v:Value):Option SK:=Value.c v none (λb=>some (.num (Bu b))) (λi a=>some (.num i)) (λs a=>some (.txt s)) λa=>none
def SK.EE(k:SK)(v:Value):Bool:=decide (ed v=some k)
def SK.KG(h:SK.EE k v=true){G:SK->_->Prop}(b:∀b,G (.num (Bu b)) (.bool b))(n:∀i t,G (.num i) (.int i t))(s:∀s t,G (.txt s) (.str s t)):G k v:=by have h:=A9 h;cases v with|bool x=>show AP h▸b x|int i t=>show AP h▸n i t|str x t=>show AP h▸s x t|_=>show AS h
def SK.loose(h:SK.Fb k v=true):SK.EE k v=true:=SK.el h (G:=λk v=>_=_) (λa a=>BC rfl) λa a=>BC rfl
def bu{a b:SK}(f:SK.EE a B=true)(e:SK.EE b v=true):SeqAt.EqAt A s B v (decide (a=b)):=SK.KG f (G:=λa B=>SeqAt.EqAt A s B v (decide (a=b))) (λp=>SK.KG e (G:=λb v=>SeqAt.EqAt A s _ v (decide (_=b))) (λq=>Cj (by cases p<;>cases q<;>rfl) (.bool_bool _ _)) (λj d=>Cj (NL (λc c=>SK.num.inj) _ j) (.bool_int _ _ _)) λj d=>Cj rfl (.bool_str _ _ _)) (λi t=>SK.KG e (G:=λb v=>SeqAt.EqAt A s _ v (decide (_=b))) (λq=>Cj (NL (λc c=>SK.num.inj) i _) (.int_bool _ _ _)) (λj d=>Cj (NL (λc c=>SK.num.inj) i j) (.int_int _ _ _ _)) λj d=>Cj rfl (.int_str _ _ _ _)) λi t=>SK.KG e (G:=λb v=>SeqAt.EqAt A s _ v (decide (_=b))) (λq=>Cj rfl (.str_bool _ _ _)) (λj d=>Cj rfl (.str_int _ _ _ _)) λj d=>Cj (NM (λc c=>SK.txt.inj) i j) (.str_str _ _ _ _)
def JV(f:Program)(w:World):KeyKind f w SK where is:=SK.EE;hash:=QR w;inj:=λv a b g i=>AP ((A9 g).symm.trans (A9 i));byValue:=λk v h=>SK.KG h (G:=λc v=>carriedByValue v=true) (λc=>rfl) (λc c=>rfl) λc c=>rfl;pyHash:=λ{A E s k v Q}d h=>SK.KG d (G:=λk v=>Q (QR w k) {s with toks:=s.toks+1}->wpAny (model f w) A (PySem.pyHash v) Q E s) (λc=>Xa) (λc c=>wpAny_pyHash_int) (λc c=>wpAny_pyHash_str) h;eqBool:=λj d h=>bu j d _ _ _ _ h;«strs»:=λk x t v h=>by cases AP (A9 h:some (SK.txt x)=some k);cases v with|str y u=>show(NM (w:=λs=>some (SK.txt s)) (λc c e=>SK.txt.inj (AP e)) y x).symm|_=>rfl
def Fe(c:Program)(w:World):KeyKind c w SK where is:=SK.Fb;hash:=QR w;inj:=λv a b f g=>(JV c w).inj v a b (SK.loose f) (SK.loose g);byValue:=λk v h=>(JV c w).byValue k v (SK.loose h);pyHash:=λd h=>(JV c w).pyHash (SK.loose d) h;eqBool:=λi d h=>(JV c w).eqBool (SK.loose i) (SK.loose d) h;«strs»:=λk x t v h=>by cases AP (A9 h:some (SK.txt x)=some k);cases v with|str y u=>show(NM (w:=λs=>some (SK.txt s)) (λj j e=>SK.txt.inj (AP e)) y x).symm|_=>rfl
def ef{a:Program}{w:World}{z:Array DictEntry}(h:PySem.KeysOf (Fe a w) z):PySem.KeysOf (JV a w) z:=λe c=>(h e c).imp λk b=>⟨SK.loose b.1,b.2⟩
def gT(h:Pairs (Fe e w) z c):Pairs (JV e w) z c:=by induction h with|nil=>show .nil|cons a b _ d=>show .cons (SK.loose a) b d
def bI{h:Heap}(x:h.DictAt (Fe b w) a c ep):h.DictAt (JV b w) a c ep:=x.imp λo x=>x.imp λd x=>⟨x.1,x.2.1,x.2.2.1,ef x.2.2.2.1,gT x.2.2.2.2.1,x.2.2.2.2.2⟩
structure Loc where
 a:Addr
 d:Addr
 ep:Nat
structure Mu where
 loc:Nat->Loc
 A6:Addr->Prop
def St.has(f:St)(n:Nat):Prop:=(f.objs n).isSome=true
def Apart(f:St)(d:Mu)(a:Addr):Prop:=∀n,f.has n->a≠(d.loc n).a/\a≠(d.loc n).d
def Be(f:St)(d:Mu)(a:Addr):Prop:=Apart f d a/\¬d.A6 a
end
mutual
inductive VR(σ:St)(μ:Mu)(h:Heap):V->Value->Prop
 |none:VR σ μ h .none .none
 |bool (b:Bool):VR σ μ h (.bool b) (.bool b)
 |int (i:Int) (t:Tok):VR σ μ h (.int i) (.int i t)
 |str (s:Str) (t:Tok):VR σ μ h (.str s) (.str s t)
 |tup {xs:List V} {a:Addr} {items:Array Value}:IsTup h a items->Be σ μ a->AM σ μ h xs items.toList->xs.length<=lim->(∃o,h.get? a=some o/\o.dict=Option.none)->VR σ μ h (.tup xs) (.ref a)
 |lst {xs:List V} {a:Addr} {items:Array Value}:h.IsList a items->Be σ μ a->AM σ μ h xs items.toList->xs.length<=lim->VR σ μ h (.lst xs) (.ref a)
 |ref (n:Nat):n<σ.next->VR σ μ h (.ref n) (.ref (μ.loc n).a)
inductive AM(σ:St)(μ:Mu)(h:Heap):List V->List Value->Prop
 |nil:AM σ μ h [] []
 |cons {x:V} {v:Value} {xs:List V} {vs:List Value}:VR σ μ h x v->AM σ μ h xs vs->AM σ μ h (x::xs) (v::vs)
end
mutual
open A
structure Cx where
 prog:Program
 w:World
 K:Frag
 h0:Heap
 RF:OsState
 cls:Nat->Addr
 nm:Nat->Str
 an:Nat->Str
 inj:∀i j,nm i=nm j->i=j
 Yo:∀i j,an i=an j->i=j
def CN(f:St)(d:Mu)(h:Heap):List (SK×V)->List (SK×Value)->Prop|[],[]=>True|(k,x)::a,(b,v)::c=>k=b/\VR f d h x v/\CN f d h a c|_,_=>False
def K4(h:Heap)(K:CV->Value->Prop)(k:CV)(v:Value):Prop:=CV.casesOn (motive_1:=λg=>Prop) k (λi=>(∃b,i=Bu b/\v=.bool b)\/∃t,v=.int i t) (λs=>∃t,v=.str s t) λd=>∃a c,v=.ref a/\IsTup h a c/\d.length=c.size/\∀i(e:i<d.length)(f:i<c.size),K d[i] c[i]
def CK(h:Heap):Nat->CV->Value->Prop|0=>λa a=>False|d+1=>K4 h (CK h d)
def CK.el{K}(q:K4 h K k v){G:CV->_->Prop}(b:∀b,G (.int (Bu b)) (.bool b))(i:∀i t,G (.int i) (.int i t))(s:∀s t,G (.str s) (.str s t))(t:∀d a m,IsTup h a m->d.length=m.size->(∀i(n)(o:i<m.size),K d[i] m[i])->G (.tup d) (.ref a)):G k v:=by cases k with|int j=>show q.elim (λf=>AJ f λc e g=>e▸g▸b c) λf=>Ac f λu e=>e▸i j u|str x=>show q.elim λu e=>e▸s x u|tup d=>show q.elim λa q=>q.elim λl q=>q.1▸t d a l q.2.1 q.2.2.1 q.2.2.2
end
mutual
noncomputable def J'(w:World):CV->Int|.int i=>hashInt i|.str s=>hashStr w s|.tup a=>reduceHash (Builtin.Tuple.tupleHashOf (Hd w a))
noncomputable def Hd(w:World):List CV->List Int|[]=>[]|k::a=>J' w k::Hd w a
end
mutual
noncomputable def J9:CV->Nat|.int _=>1|.str _=>1|.tup a=>JD a+1
noncomputable def JD:List CV->Nat|[]=>0|k::a=>J9 k+JD a
end
mutual
open A
def bE(w)(a):∀b:_,Hd w (a++b)=Hd w a++Hd w b:=by induction a with|nil=>showλd=>rfl|cons k a c=>showλb=>AE _ (c b)
def bD(a):∀b:_,JD (a++b)=JD a+JD b:=by induction a with|nil=>showλd=>(Nat.zero_add _).symm|cons k a c=>showλb=>(AE _ (c b)).trans (Nat.add_assoc ..).symm
def dw{s}{a}{c}(G:A.units+1<cLine)(E:IsTup s.heap a m)(u:c.length=m.size)(H:∀(e)i(N:i<c.length)(O)(T)(Q),e.heap=s.heap->Q (J' w c[i]) {e with toks:=e.toks+J9 c[i]}->wpAny (model I w) A.in1 (pyHash m[i]) Q T e)(h:Q (J' w (.tup c)) {s with toks:=s.toks+J9 (.tup c)}):wpAny (model I w) A (pyHash (.ref a)) Q T s:=by
 obtain⟨o,v,B,n,C⟩:=E;have f:s.TypeIs (.ref a) _:=⟨o,v,B⟩;show AA (wpAny_cRoomFor_or (.inr (BH G)) (AA (Mf f F.slot_tuple_hash.lookup (J (AF (by show HL)) (AA (Mf f F.slot_tuple_hash.lookup (AA (wpAny_callSpecialIfBoundUnlessNone?_slot f F.slot_tuple_hash (FH F.slot_tuple_hash f F.entry_tuple_hash ?_ (F.args_tuple_hash_1 _))))))))));show(?_:wpAny _ _ (Builtin.Tuple.tupleItemsOf _>>=_) _ _ s);show AA (wpAny_tupleItemsOf v C ?_);show AA<|Mine.AU Array.forIn_toList<|wpAny_forIn_list _ (λy(b)e=>∃i,y=m.toList.drop i/\i<=m.size/\b.toList=Hd w (c.take i)/\e={s with toks:=s.toks+JD (c.take i)}) _ ?_ ?_ _ _ ⟨0,rfl,De _,rfl,rfl⟩
 ·rintro x y b e⟨i,d,D,g,rfl⟩;have k:i<m.size:=by
   rcases Nat.lt_or_ge i _ with q|q;·show q
   ·rw[List.drop_of_length_le (by assumption)]at d;cases d
  rw[(by simp[List.drop_eq_getElem_cons,k]:m.toList.drop i=m[i]::m.toList.drop (i+1))]at d;show AV (List.cons.inj d) λL M=>?_;obtain rfl:=L;obtain rfl:=M;have t:=AZ k (AY u.symm);have p:c.take (i+1)=_:=J (List.take_succ_eq_append_getElem t) rfl;show AA (H _ i t k _ _ rfl ?_);have r:∃j,_=m.toList.drop j/\j<=_/\(b.push _).toList=Hd w (c.take j)/\_={s with toks:=s.toks+JD (c.take j)}:=⟨i+1,rfl,k,J p (J (bE w _ _) (J (Mj) (AE (·++_) g))),J p (AE (λn=>({s with toks:=n})) ((Nat.add_assoc ..).trans (AE _ (bD _ _).symm)))⟩;first|show AW r|show AA (AW (AW r))
 ·rintro b e⟨i,d,D,g,rfl⟩;have z:c.take i=c:=O' (by show(AQ (AY u) (Nat.le_of_sub_eq_zero ((List.length_drop ..).symm.trans (AE List.length d).symm))));rw[z]at g⊢;show(?_:wpAny _ _ (retInt _) _ _ _);show J g (wpAny_ret_mkInt ?_);have l:Q (reduceHash _) _:=h;show(?_:wpAny _ _ (if(_&&_)=_ then _ else _) Q T _);unfold reduceHash at l;by_cases d:(decide (-(2)^63<=Builtin.Tuple.tupleHashOf (Hd w c))&&decide (Builtin.Tuple.tupleHashOf (Hd w c)<2^63))=true;·show J (AG d) ?_;rw[AG d]at l;show AW (by assumption)
  ·show J (AF d) ?_;rw[AF d]at l;show AA (Gp (AW (by assumption)))
def du:∀(H)(A)(T)(s)(k:CV)(v)(Q),A.units+H<cLine->CK s.heap H k v->Q (J' w k) {s with toks:=s.toks+J9 k}->wpAny (model r w) A (pyHash v) Q T s:=by intro H;induction H with|zero=>intro b b b b b b b q b;show q.elim|succ H d=>intro A T s k v Q c q h;show CK.el q (G:=λk v=>Q (J' w k) {s with toks:=_+J9 k}->wpAny _ A (pyHash v) Q T s) (λb=>Xa) (λb b=>wpAny_pyHash_int) (λb b=>wpAny_pyHash_str) (λp a o m l j=>dw (Ai (HX (A2 _ _)) c) m l λn i f g T Q e=>d _ T n _ _ Q (lf c (by simp+arith)) (e▸j i f g)) h
def hM{j:List CV}(y:IsTup s.heap a m)(x:j.length=m.size)(C:∀i(D:i<j.length)(b)(A)(T)(Q),Q true s->wpAny (model k w) A (eqIsQuiet n m[i]) Q T s)(h:Q true s):wpAny (model k w) A (eqIsQuiet (n+1) (.ref a)) Q T s:=by
 obtain⟨o,f,p,E,q⟩:=y;have d:s.TypeIs (.ref a) _:=⟨o,f,p⟩;unfold eqIsQuiet;show AA (Mf d F.slot_tuple_eq.lookup (AA (wpAny_isInstance d isSubtype_tuple_tuple (AA (Gq f q (AA (?_:wpAny _ _ (forIn m _ _) _ _ s)))))));show Mine.AU Array.forIn_toList<|wpAny_forIn_list _ (λl r c=>r.1=none/\c=s/\∀v∈l,∀(A)(T)(Q),Q true s->wpAny (model k w) A (eqIsQuiet n v) Q T s) _ ?_ ?_ _ _ ⟨rfl,rfl,?_⟩;·rintro v l r c⟨g,rfl,e⟩;show AA (e v AR _ _ _ (AW ⟨rfl,rfl,λu z=>e u (Ah _ z)⟩))
 ·rintro⟨G,H⟩c⟨g,rfl,_⟩;subst g;show AW h
 ·intro v B;obtain⟨i,t,rfl⟩:=List.getElem_of_mem B;have b:=by simpa using t
  show C i (AZ b (AY x.symm)) b
def hK:∀(H)(A)(T)(s)(k:CV)(v)(Q),CK s.heap H k v->Q true s->wpAny (model n w) A (eqIsQuiet H v) Q T s:=by intro H;induction H with|zero=>intro b b b b b b q b;show q.elim|succ H c=>intro A T s k v Q q h;show CK.el q (G:=λk v=>wpAny _ A (eqIsQuiet _ v) Q T s) (λb=>J (eqIsQuiet_byValue _ rfl) (AW h)) (λb b=>J (eqIsQuiet_byValue _ rfl) (AW h)) (λb b=>J (eqIsQuiet_byValue _ rfl) (AW h)) λm a l j g f=>hM j g (λi d e A T Q=>c A T s _ _ Q (f i d e)) h
def CK.keeps(l:∀o,h.get? b=some o->∀u n,o.data≠.seq u n)(s:∀a o,a≠b->h.get? a=some o->f.get? a=some o):∀(H)(k:CV)(v),CK h H k v->CK f H k v:=by intro H;induction H with|zero=>intro c c q;show q|succ H d=>intro k v q;show CK.el q (λb=>.inl ⟨b,rfl,rfl⟩) (λc t=>.inr ⟨t,rfl⟩) (λc t=>⟨t,rfl⟩) λy a x w r p=>⟨a,_,rfl,w.elim λo z=>⟨o,s a o (λe=>z.2.2.elim λn m=>l o (e▸z.1) _ n m) z.1,z.2⟩,r,λi g j=>d _ _ (p i g j)⟩
def IsTup.same(p:IsTup h a u)(q:IsTup h a ys):u=ys:=p.elim λo p=>q.elim λc q=>p.2.2.elim λn e=>q.2.2.elim λm b=>(Data.seq.inj (e.symm.trans (AP (p.1.symm.trans q.1)▸b))).1
def CK.inj:∀(H)(x A:CV)(v),CK h H x v->CK h H A v->x=A:=by intro H;induction H with|zero=>intro d d d q d;show q.elim|succ H l=>intro x A v w f;show CK.el w (G:=λx v=>K4 h _ A v->x=A) (λb f=>CK.el f (G:=λA v=>v=_->_=A) λc e=>by cases e;rfl (λd d=>λh=>by cases h) (λd d=>λh=>by cases h) (λd d d d d d=>λh=>by cases h) rfl) (λi t f=>CK.el f (G:=λA v=>v=_->_=A) (λd=>λh=>by cases h) λj u e=>by cases e;rfl (λd d=>λh=>by cases h) (λd d d d d d=>λh=>by cases h) rfl) (λi t f=>CK.el f (G:=λA v=>v=_->_=A) (λd=>λh=>by cases h) (λd d=>λh=>by cases h) λj u e=>by cases e;rfl (λd d d d d d=>λh=>by cases h) rfl) (λC a z r k n f=>CK.el f (G:=λA v=>v=_->_=A) (λd=>λh=>by cases h) (λd d=>λh=>by cases h) (λd d=>λh=>by cases h) (λD y B s p o e=>by cases e;cases IsTup.same r s;show AE _ (List.ext_getElem (k.trans p.symm) λi g m=>l _ _ _ (n i g (k▸g)) (o i m (k▸g)))) rfl) f
open Classical in
def b6{a l}(u:A.units<cLine)(o:IsTup s.heap a m)(p:IsTup s.heap l d)(g:f.length=m.size)(h:e.length=d.size)(r:∀i(c)(b:i<m.size),CK s.heap H f[i] m[i])(t:∀i(c)(b:i<d.size),CK s.heap H e[i] d[i])(v:∀j(c)(b:j<e.length)(w)(x:j<d.size),SeqAt.EqAt A.in1 s m[j] d[j] (decide (f[j]=e[j]))):SeqAt.EqAt A s (.ref a) (.ref l) (decide (CV.tup f=CV.tup e)):=by
 by_cases n:a=l;·subst n;show Cj (BC (CK.inj (H+1) (.tup f) (.tup e) _ ⟨a,_,rfl,o,g,r⟩ ⟨a,d,rfl,p,h,t⟩)).symm (SeqAt.EqAt.same _)
 ·have q:=SeqAt.RcAt.tuples (e:=λj=>decide (f[j]?=e[j]?)) o p u λj c b=>by show Cj (by show J (Cz (g▸c)) ?_;show J (Cz (h▸b)) ?_;show decide_eq_decide.mpr ⟨AE _,AP⟩) (v j (g▸c) (h▸b) c b)
  rw[(by
   rw[Fh];simp only[Ct,DD,Ju,Lb,A5,CV.tup.injEq];constructor
   ·rintro⟨c,b⟩;show List.ext_getElem? λj=>?_;by_cases k:j<m.size;·show c j (Nat.lt_min.mpr ⟨k,IA k b⟩)
    ·show J (H8 (AQ (AY g) (DP k))) ?_;show J (H8 (AQ (AY h) (AQ (AY b.symm) (DP k)))) ?_;rfl
   ·rintro rfl;show⟨λj y=>rfl,GR (AQ (AY g.symm) (AY h)) (AQ (AY h.symm) (AY g))⟩:((List.range (min m.size d.size)).all (λj=>decide (f[j]?=e[j]?))&&m.size==d.size)=decide (CV.tup f=CV.tup e))]at q;show SeqAt.EqAt.of_refs n q
open Classical in
def bx:∀(H)(f)(s)(x A:CV)(B v),f.units+H<cLine->CK s.heap H x B->CK s.heap H A v->SeqAt.EqAt f s B v (decide (x=A)):=by intro H;induction H with|zero=>intro d d d d d d d q d;show q.elim|succ H r=>intro f s x A B v o I l;have g:=Ai (A2 _ _) o;have k:=NL λd d=>CV.int.inj;have u:=NM λd d=>CV.str.inj;show CK.el I (G:=λx B=>SeqAt.EqAt f s B v (decide (x=A))) (λb=>CK.el l (G:=λA v=>SeqAt.EqAt f s _ v (decide (_=A))) (λc=>Cj (((by decide:∀p q:Bool,(p==q)=(Bu p==Bu q)) b c).trans (k _ _)) (.bool_bool _ _)) (λj t=>Cj (k _ _) (.bool_int _ _ _)) (λj t=>Cj (Bz λh=>by cases h).symm (.bool_str _ _ _)) λd d d e d d=>Cj (Bz λh=>by cases h).symm (.bool_tuple _ e g)) (λi t=>CK.el l (G:=λA v=>SeqAt.EqAt f s _ v (decide (_=A))) (λc=>Cj (k _ _) (.int_bool _ _ _)) (λj t=>Cj (k _ _) (.int_int _ _ _ _)) (λj t=>Cj (Bz λh=>by cases h).symm (.int_str _ _ _ _)) λd d d e d d=>Cj (Bz λh=>by cases h).symm (.int_tuple _ _ e g)) (λi t=>CK.el l (G:=λA v=>SeqAt.EqAt f s _ v (decide (_=A))) (λc=>Cj (Bz λh=>by cases h).symm (.str_bool _ _ _)) (λj t=>Cj (Bz λh=>by cases h).symm (.str_int _ _ _ _)) (λj t=>Cj (u _ _) (.str_str _ _ _ _)) λd d d e d d=>Cj (Bz λh=>by cases h).symm (.str_tuple _ _ e g)) λO a M e D m=>CK.el l (G:=λA v=>SeqAt.EqAt f s _ v (decide (_=A))) (λc=>Cj (Bz λh=>by cases h).symm (.tuple_bool _ e g)) (λj t=>Cj (Bz λh=>by cases h).symm (.tuple_int _ _ e g)) (λj t=>Cj (Bz λh=>by cases h).symm (.tuple_str _ _ e g)) λQ L N G E n=>b6 g e G D E m n λj w z y C=>r _ s _ _ _ _ (lf o (by simp+arith)) (m j w y) (n j z C)
open Classical in
noncomputable def Tu(r:Program)(w:World):HeapKind r w CV where is:=λh k a=>CK h 8 k (.ref a);hash:=J' w;draws:=J9;room:=λA=>A.units+12<cLine;inj:=λf g=>CK.inj 8 _ _ _ f g;keeps:=λ{h u k a d o t s}x m j q=>CK.keeps (b:=d) (λi p v n e=>by obtain rfl:o=i:=AP (m.symm.trans p);rw[j]at e;cases e) (λa i l e=>(q.2 a l).trans e) 8 _ _ x;pyHash:=λc b h=>du 8 _ _ _ _ _ _ (Ai (EJ (Ay _ _) _) c) b h;eqBool:=λc f g h=>bx 8 _ _ _ _ _ _ (Ai (EJ (Ay _ _) _) c) f g _ _ _ _ h;quiet:=λb h=>hK 8 _ _ _ _ _ _ b h
end
section
mutual
open A
variable{f g:St}{d Y:Mu}{h e:Heap}
def Yc(f:St)(d:Mu)(h:Heap)(x:V)(B:Value):Prop:=V.casesOn (motive_1:=λk=>Prop) x (B=.none) (λb=>B=.bool b) (λi=>∃t,B=.int i t) (λs=>∃t,B=.str s t) (λj=>∃a c,B=.ref a/\IsTup h a c/\Be f d a/\AM f d h j c.toList/\j.length<=lim/\∃o,h.get? a=some o/\o.dict=none) (λj=>∃a c,B=.ref a/\h.IsList a c/\Be f d a/\AM f d h j c.toList/\j.length<=lim) λn=>B=.ref (d.loc n).a/\n<f.next
def VR.is(q:VR f d h x B):Yc f d h x B:=by cases q with|none=>rfl|bool b=>rfl|int i t=>show⟨t,rfl⟩|str s t=>show⟨t,rfl⟩|tup a b c j k=>show⟨_,_,rfl,a,b,c,j,k⟩|lst a b c j=>show⟨_,_,rfl,a,b,c,j⟩|ref n m=>show⟨rfl,m⟩
def VR.shape(q:VR f d h x v){G:V->_->Prop}(n:G .none .none)(b:∀b,G (.bool b) (.bool b))(i:∀i t,G (.int i) (.int i t))(s:∀s t,G (.str s) (.str s t))(r:∀x a,DB x=false->G x (.ref a)):G x v:=by have q:=q.is;cases x with|none=>show q▸n|bool c=>show q▸b c|int j=>show q.elim λt k=>k▸i j t|str j=>show q.elim λt k=>k▸s j t|tup o=>show q.elim λa q=>q.elim λm q=>q.1▸r _ a rfl|lst o=>show q.elim λa q=>q.elim λm q=>q.1▸r _ a rfl|ref n=>show q.1▸r _ _ rfl
def V7(j:DB x=true):x=.none:=by cases x with|none=>rfl|_=>show AX j
def int_is(j:intOf x=some i):x=.int i:=by cases x with|int a=>show AE _ (AP j)|_=>show AS j
def TF(j:boolOf x=some i):x=.bool i:=by cases x with|bool a=>show AE _ (AP j)|_=>show AS j
def str_is(j:strOf x=some i):x=.str i:=by cases x with|str a=>show AE _ (AP j)|_=>show AS j
def tup_is(j:FG x=some i):x=.tup i:=by cases x with|tup a=>show AE _ (AP j)|_=>show AS j
def lst_is(j:KY x=some i):x=.lst i:=by cases x with|lst a=>show AE _ (AP j)|_=>show AS j
def OG(j:refOf x=some i):x=.ref i:=by cases x with|ref a=>show AE _ (AP j)|_=>show AS j
end
section
mutual
open A
variable{x:V}{B:Value}(q:VR f d h x B){G:Value->Prop}
include q
theorem VR.i{i}(j:intOf x=some i)(k:∀t,G (.int i t)):G B:=(int_is j▸q).is.elim λt j=>j▸k t
theorem VR.b{i}(j:boolOf x=some i)(k:G (.bool i)):G B:=(TF j▸q).is▸k
theorem VR.s{i}(j:strOf x=some i)(k:∀t,G (.str i t)):G B:=(str_is j▸q).is.elim λt j=>j▸k t
theorem VR.t(j:FG x=some u)(k:∀a m,IsTup h a m->Be f d a->AM f d h u m.toList->u.length<=lim->(∃o,h.get? a=some o/\o.dict=Option.none)->G (.ref a)):G B:=(tup_is j▸q).is.elim λa z=>z.elim λc z=>z.1▸k a c z.2.1 z.2.2.1 z.2.2.2.1 z.2.2.2.2.1 z.2.2.2.2.2
theorem VR.l(j:KY x=some u)(k:∀a m,h.IsList a m->Be f d a->AM f d h u m.toList->u.length<=lim->G (.ref a)):G B:=(lst_is j▸q).is.elim λa z=>z.elim λc z=>z.1▸k a c z.2.1 z.2.2.1 z.2.2.2.1 z.2.2.2.2
theorem VR.r(j:refOf x=some n)(k:n<f.next->G (.ref (d.loc n).a)):G B:=(OG j▸q).is.1▸k (OG j▸q).is.2
end
end
mutual
open A
def AM.n(q:AM f d h [] D):D=[]:=by cases q;rfl
def AM.c(q:AM f d h (x::u) D){G:_->Prop}(k:∀v r,VR f d h x v->AM f d h u r->G (v::r)):G D:=by cases q with|cons a b=>show k _ _ a b
def nS{b:Type}{a:b}{G:Prop}(h:Option.none=some a):G:=AS h
def oB{b c:Type}{o:Option b}{F}{r:c}(q:o.bind F=some r){G:Prop}(k:∀E,o=some E->F E=some r->G):G:=(Fu.mp q).elim λE a=>k E a.1 a.2
def oM{c a:Type}{o}{F:c->a}{r:a}(q:o.map F=some r){G:a->Prop}(k:∀E,o=some E->G (F E)):G r:=(By.mp q).elim λE b=>b.2▸k E b.1
def o2{o:Option l}{p:Option m}{F}{r:j}(q:b2 o p F=some r){G:j->Prop}(k:∀a b,o=some a->p=some b->G (F a b)):G r:=oB q λa c q=>oM q λb i=>k a b c i
def oI[Decidable c]{b:Type}{t j}{r:b}(q:(if c then t else j)=some r){G:Prop}(k:c->t=some r->G)(a:¬c->j=some r->G):G:=(Decidable.em c).elim (λh=>k h ((AG h).symm.trans q)) λh=>a h ((AF h).symm.trans q)
def iG{c}[Decidable c]{a b:k}{G:k->Prop}(i:c->G a)(j:¬c->G b):G (if c then a else b):=by
 by_cases h:c;·show J (AG h) ?_;show i h
 ·show J (AF h) ?_;show j h
def oT[Decidable c]{i:Type}{t}{r:i}(q:(if c then t else none)=some r):c/\t=some r:=oI q (λa b=>⟨a,b⟩) λj b=>AS b
def Ho(j:listAt f n=some u):f.objs n=some (.list u):=oB j λo a q=>by cases o with|list b=>show a.trans (AE (λz=>some _) (AP q))|_=>show AS q
def P5(j:dictAt f n=some p):f.objs n=some (.dict p.1 p.2):=oB j λo a q=>by cases o with|dict b k=>cases q;show a|_=>show AS q
def Lu(j:E9 f n=some p):f.objs n=some (.inst p.1 p.2):=oB j λo a q=>by cases o with|inst b k=>cases q;show a|_=>show AS q
def JS{l}{H}{t}{r:i}(j:IV f n l H t=some r){G:Prop}(b:∀u,f.objs n=some (.list u)->l u=some r->G)(kd:∀z k,f.objs n=some (.dict z k)->H z k=some r->G)(c:∀z,f.objs n=some (.D1 z)->t z=some r->G):G:=oB j λo a q=>by cases o with|list u=>show b u a q|dict z k=>show kd z k a q|D1 z=>show c z a q|_=>show AS q
def Kh(q:VR f d h x v)(j:Ht x=some k):SK.Fb k v=true:=by show BC ?_;cases x with|int i=>show q.i rfl (G:=λv=>_=_) λa=>j|str i=>show q.s rfl (G:=λv=>_=_) λa=>j|_=>show AS j
def iS(q:VR f d h x v)(j:Wv x=some k):SK.EE k v=true:=by show BC ?_;cases x with|bool i=>show q.b rfl (G:=λv=>_=_) j|int i=>show q.i rfl (G:=λv=>_=_) λa=>j|str i=>show q.s rfl (G:=λv=>_=_) λa=>j|_=>show AS j
def Ta{K}(m:∀u c D,B u=some c->AM f d h u D->c.length=D.length/\∀i(l)(p:i<D.length),K c[i] D[i])(q:VR f d h x v)(j:Pt B x=some k):K4 h K k v:=by cases x with|bool b=>show AP j▸.inl ⟨b,rfl,q.is⟩|int i=>show AP j▸.inr q.is|str i=>show AP j▸q.is|tup u=>show oM j (G:=λk=>K4 h K k v) λc j=>q.t rfl λa s r o n o o=>⟨a,_,rfl,r,by simpa using(m _ _ _ j n).1,λi l p=>(m _ _ _ j n).2 i l (by assumption)⟩|_=>show AS j
def Pw{K:CV->_->_}{w}(p:∀x v k,w x=some k->VR f d h x v->K k v):∀(u)(a)(D),NB w u=some a->AM f d h u D->a.length=D.length/\∀i(b)(c:i<D.length),K a[i] D[i]:=by intro u;induction u with|nil=>intro a D j q;cases q.n;cases j;show⟨rfl,λi b=>absurd b (HW _)⟩|cons x u m=>showλa D j q=>q.c (G:=λD=>_=_/\∀i(b:i<_)(c:i<D.length),K a[i] D[i]) λv r s n=>o2 j (G:=λa=>_=_/\∀i(b:i<a.length)(c:i<_),K a[i] _[i]) λk a o l=>⟨AE _ (m _ _ l n).1,λi b c=>by cases i with|zero=>show p _ _ _ o s|succ i=>show(m _ _ l n).2 i (HV b) (HV c)⟩
def aY:∀(H)(u)(c)(D),Pu H u=some c->AM f d h u D->c.length=D.length/\∀i(k)(l:i<D.length),CK h H c[i] D[i]:=by intro H;induction H with|zero=>intro a a a b a;show nS b|succ H j=>intro u c D b q;show Pw (λa a a b q=>Ta j q b) u c D b q
def Tc(H)(x:V)(v)(k:CV)(j:G8 H x=some k)(q:VR f d h x v):CK h (H+1) k v:=Ta (aY H) q j
def CK.up:∀(H)(k:CV)(v),CK h H k v->CK h (H+1) k v:=by intro H;induction H with|zero=>intro c c q;show q.elim|succ H j=>intro k v q;show CK.el q (λb=>.inl ⟨b,rfl,rfl⟩) (λc t=>.inr ⟨t,rfl⟩) (λc t=>⟨t,rfl⟩) λs a r p o n=>⟨a,_,rfl,p,o,λi l m=>j _ _ (n i l m)⟩
def Ob(q:VR f d h x v)(j:Cf x=some k):∃a,v=.ref a/\CK h 8 k (.ref a):=oB j λs l j=>oM j (G:=λk=>∃a,v=.ref a/\CK h 8 k (.ref a)) λr j=>q.t l (G:=λv=>∃a,v=.ref a/\CK h 8 _ (.ref a)) λa p n c b c c=>⟨a,rfl,CK.up 7 _ _ ⟨a,_,rfl,n,by simpa using(Pw (Tc 5) _ _ _ j b).1,λi m o=>(Pw (Tc 5) _ _ _ j b).2 i m (by assumption)⟩⟩
end
end
mutual
open A
def SV(C:Cx)(f:St)(d:Mu)(h:Heap)(as:List (Nat×V))(m:Str->Option Value):Prop:=∀a V,DI as a=some V->∃v,m (C.an a)=some v/\VR f d h V v
def Sk(C:Cx)(as:List (Nat×V))(m:Str->Option Value):Prop:=∀x,(∀a V,DI as a=some V->C.an a≠x)->m x=none
open Classical in
def OR(C:Cx)(f:St)(d:Mu)(h:Heap)(n:Nat):A'->Prop|.list g=>(∃k,h.PlainList (d.loc n).a k/\AM f d h g k.toList)/\g.length<=lim/\(d.loc n).d=(d.loc n).a|.dict e _=>(∃l,h.DictAt (Fe C.prog C.w) (d.loc n).a l (d.loc n).ep/\CN f d h e l)/\e.length<=lim/\(d.loc n).d=(d.loc n).a|.D1 e=>(∃g:List (CV×Addr×Value),h.DictOfH (Tu C.prog C.w) (d.loc n).a g/\(∀x∈g,∃V,Cf V=some x.1/\VR f d h V (.ref x.2.1))/\g.length=e.length/\∀i(q:i<g.length)(r:i<e.length),g[i].1=e[i].1/\VR f d h e[i].2 g[i].2.2)/\e.length<=lim/\(d.loc n).d=(d.loc n).a|.inst c j=>h.get? (d.loc n).a=some (instObj (C.cls c) (d.loc n).d)/\j.length<=100/\(∀a V,DI j a=some V->findIn C.K (.ref (C.cls c)) (C.an a)=some none)/\∃e p m,h.get? (d.loc n).d=some ⟨.type "dict",none,.dict e p,#[]⟩/\StrKeys e/\e.size<=j.length/\(∀o,nsFind e o=m o)/\SV C f d h j m/\Sk C j m|.BJ=>(∃a b,IsPair h (d.loc n).a a b)/\(d.loc n).d=(d.loc n).a
structure Inv(C:Cx)(σ:St)(μ:Mu)(s:Shared):Prop where
 base:∀a o,C.h0.get? a=some o->s.heap.get? a=some o
 objs:∀n o,σ.objs n=some o->OR C σ μ s.heap n o
 live:∀n,σ.has n->(s.heap.get? (μ.loc n).a).isSome=true/\(s.heap.get? (μ.loc n).d).isSome=true
 apart:∀n m,n≠m->σ.has n->σ.has m->(μ.loc n).a≠(μ.loc m).a/\(μ.loc n).a≠(μ.loc m).d/\(μ.loc n).d≠(μ.loc m).d
 fresh:∀n,σ.has n->C.h0.get? (μ.loc n).a=none/\C.h0.get? (μ.loc n).d=none
 lt:∀n,σ.has n->n<σ.next
 Dj:∀n,σ.has n->¬μ.A6 (μ.loc n).a/\¬μ.A6 (μ.loc n).d
 Dw:∀a,μ.A6 a->(s.heap.get? a).isSome=true
 Dv:∀a,μ.A6 a->C.h0.get? a=none
 gens:s.gens=#[]
 os:s.os=C.RF
structure Step(X:Addr->Prop)(σ:St)(μ:Mu)(h:Heap)(FJ:St)(FI:Mu)(h':Heap):Prop where
 next:σ.next<=FJ.next
 mu:∀n,n<σ.next->(FI.loc n).a=(μ.loc n).a/\(FI.loc n).d=(μ.loc n).d
 A6:FI.A6=μ.A6
 old:∀n,n<σ.next->FJ.has n->σ.has n
 new:∀n,σ.next<=n->FJ.has n->(h.get? (FI.loc n).a=none\/X (FI.loc n).a)/\(h.get? (FI.loc n).d=none\/X (FI.loc n).d)
 live:∀a,¬X a->(h.get? a).isSome=true->(h'.get? a).isSome=true
 kept:∀a o,¬X a->h.get? a=some o->Apart σ μ a->h'.get? a=some o
 ep:∀n,n<σ.next->∀es R8,FJ.objs n=some (.dict es R8)->∃Uh R9,σ.objs n=some (.dict Uh R9)/\R9<=R8/\(R9=R8->Uh=es/\(FI.loc n).ep=(μ.loc n).ep)
abbrev BO:Addr->Prop:=λa=>False
def Step.refl(X)(d:Mu)(h)(g:∀n,f.has n->n<f.next):Step X f d h f d h:=⟨Ag _,λa a=>⟨rfl,rfl⟩,rfl,λa a e=>e,λn i c=>absurd (g n c) (D8.mpr i),λa a e=>e,λa a a e a=>e,λn a b j e=>⟨b,j,e,Ag _,λa=>⟨rfl,rfl⟩⟩⟩
end
section
mutual
open A
variable{X:Addr->Prop}{f p y:St}{d Y A:Mu}{h g w:Heap}{C:Cx}{s B:Shared}
def Apart.step(S:Step X f d h p Y g)(m:Apart f d a)(b:(h.get? a).isSome=true)(j:¬X a):Apart p Y a:=by
 intro n i;by_cases c:n<f.next;·have:=m n (S.old n c i);show J (S.mu n c).1 (J (S.mu n c).2 this)
 ·show AV (S.new n (D8.mp c) i) λk l=>?_;constructor
  ·rintro rfl;rcases k with e|e;·rw[e]at b;show AX b
   ·show j e
  ·rintro rfl;rcases l with e|e;·rw[e]at b;show AX b
   ·show j e
def Be.step(S:Step X f d h p Y g)(b:Be f d a)(c:(h.get? a).isSome=true)(e:¬X a):Be p Y a:=⟨b.1.step S c e,J S.A6 b.2⟩
def Step.trans(S:Step X f d h p Y g)(b:Step X p Y g y A w):Step X f d h y A w where
 next:=AQ S.next b.next;mu:=λn c=>⟨(b.mu n (AZ c S.next)).1.trans (S.mu n c).1,(b.mu n (AZ c S.next)).2.trans (S.mu n c).2⟩;A6:=b.A6.trans S.A6;old:=λn c k=>S.old n c (b.old n (AZ c S.next) k);new:=λn c k=>by
  by_cases l:n<p.next;·have:=S.new n c (b.old n l k);show J (b.mu n l).1 (J (b.mu n l).2 this)
  ·have v:∀a,g.get? a=none\/X a->h.get? a=none\/X a:=by
    intro a j;by_cases i:X a;·show .inr i
    ·left;rcases j with e|e;·cases q:h.get? a with|none=>rfl|some o=>have:=S.live a i (J q rfl);rw[e]at this;show AX this
     ·show absurd e i
   have:=b.new n (D8.mp l) k;show⟨v _ this.1,v _ this.2⟩
 live:=λa i M=>b.live a i (S.live a i M);kept:=λa o i t j=>b.kept a o i (S.kept a o i t j) (j.step S (J t rfl) i);ep:=λn c H s e=>by show Dc (b.ep n (AZ c S.next) H s e) λL T G r O=>Dc (S.ep n c L T G) λI Q E m N=>⟨I,Q,E,AQ m r,λu=>AV (O (GR r (AQ (AY u.symm) m))) λz b1=>AV (N (GR m (AQ r (AY u.symm)))) λx D=>⟨x.trans z,b1.trans D⟩⟩
def Step.drop(S:Step X f d h p Y g)(b:∀a,X a->h.get? a=none):Step BO f d h p Y g where
 next:=S.next;mu:=S.mu;A6:=S.A6;old:=S.old;new:=λn m l=>by show AV (S.new n m l) λi j=>⟨.inl (i.elim id (b _)),.inl (j.elim id (b _))⟩
 live:=λa r c=>S.live a (λq=>by rw[b a q]at c;show AX c) c;kept:=λa o r e k=>S.kept a o (λq=>by rw[b a q]at e;show AS e) e k;ep:=S.ep
def Step.weaken(S:Step X f d h p Y g)(b:∀a,X a->At a):Step At f d h p Y g where next:=S.next;mu:=S.mu;A6:=S.A6;old:=S.old;new:=λn e c=>⟨(S.new n e c).1.imp id (b _),(S.new n e c).2.imp id (b _)⟩;live:=λa q j=>S.live a (λz=>q (b a z)) j;kept:=λa o q k i=>S.kept a o (λz=>q (b a z)) k i;ep:=S.ep
def VR.Vq(E:∀a o u n,h.get? a=some o->o.data=.seq u n->Be f d a->g.get? a=some o/\Be p Y a)(N:f.next<=p.next)(M:∀n,n<f.next->(Y.loc n).a=(d.loc n).a):(∀{V:V}{v},VR f d h V v->VR p Y g V v)/\∀{G}{D},AM f d h G D->AM p Y g G D:=by
 have j:∀{a}{u}{T},(∃o,h.get? a=some o/\_/\∃n,_)->_->(∃o,g.get? a=some o/\o.cls=.type T/\∃n,o.data=.seq u n)/\_/\((∃o,h.get? a=some o/\o.dict=Option.none)->∃o,_/\_):=λ⟨o,I,O,n,H⟩c=>⟨⟨o,(E _ o _ n I H c).1,O,n,H⟩,(E _ o _ n I H c).2,λy=>AJ y λA w Q=>⟨o,(E _ o _ n I H c).1,AP (I.symm.trans w)▸Q⟩⟩;constructor;·showλq=>VR.rec (motive_2:=λG D k=>AM p Y g G D) .none .bool .int .str (λe c k m L x=>.tup (j e c).1 (j e c).2.1 x m ((j e c).2.2 L)) (λe c k m x=>.lst (j e c).1 (j e c).2.1 x m) (λn z=>M n z▸.ref n (AZ z N)) .nil (λk k=>.cons) q
 ·showλq=>AM.rec .none .bool .int .str (λe c k m L x=>.tup (j e c).1 (j e c).2.1 x m ((j e c).2.2 L)) (λe c k m x=>.lst (j e c).1 (j e c).2.1 x m) (λn z=>M n z▸.ref n (AZ z N)) .nil (λk k=>.cons) q
def VR.mono(E:∀a o u n,h.get? a=some o->o.data=.seq u n->Be f d a->g.get? a=some o/\Be p Y a)(e:f.next<=p.next)(c:∀n,n<f.next->(Y.loc n).a=(d.loc n).a){V:V}(q:VR f d h V v):VR p Y g V v:=(VR.Vq E e c).1 q
def AM.mono(E:∀a o u n,h.get? a=some o->o.data=.seq u n->Be f d a->g.get? a=some o/\Be p Y a)(i:f.next<=p.next)(e:∀n,n<f.next->(Y.loc n).a=(d.loc n).a)(q:AM f d h b D):AM p Y g b D:=(VR.Vq E i e).2 q
def CN.ind{u:List (SK×V)->List (SK×Value)->Prop}(i:u [] [])(j:∀k x z v c,VR f d h x v->CN f d h z c->u z c->u ((k,x)::z) ((k,v)::c)){z:List (SK×V)}:∀{c:List (SK×Value)},CN f d h z c->u z c:=by induction z with
 |nil=>showλ{c}q=>by cases c with|nil=>show i|cons=>show q.elim
 |cons e z l=>showλ{c}q=>by cases c with|nil=>show q.elim|cons a c=>obtain⟨b,v⟩:=a;obtain⟨k,x⟩:=e;show J (p:=λk=>u ((k,x)::z) ((b,v)::c)) q.1 (j b x z v c q.2.1 q.2.2 (l q.2.2))
def CN.mono(E:∀{V:V}{v:Value},VR f d h V v->VR p Y g V v){z:List (SK×V)}{c:List (SK×Value)}(q:CN f d h z c):CN p Y g z c:=CN.ind (u:=CN p Y g) trivial (λk x z v c a e b=>⟨rfl,E a,b⟩) q
def Ha(X:Addr->Prop)(d:Mu)(h:Heap):Prop:=∀a o b n,X a->h.get? a=some o->o.data=.seq b n->d.A6 a
def LI(X:Addr->Prop)(h:Heap):Prop:=∀a o b n,X a->h.get? a=some o->o.data≠.seq b n
def LI.D4(q:LI X h):Ha X d h:=λa o i n e c b=>absurd b (q a o i n e c)
def VR.step(S:Step X f d h p Y g)(k:Ha X d h){V:V}(q:VR f d h V v):VR p Y g V v:=q.mono (λa o x n e m c=>have j:=λz=>c.2 (k a o x n z e m);⟨S.kept a o j e c.1,c.step S (J e rfl) j⟩) S.next λn u=>(S.mu n u).1
def AM.step(S:Step X f d h p Y g)(j:Ha X d h){V}(q:AM f d h V v):AM p Y g V v:=q.mono (λa o m n e k b=>have i:=λz=>b.2 (j a o m n z e k);⟨S.kept a o i e b.1,b.step S (J e rfl) i⟩) S.next λn l=>(S.mu n l).1
def VR.Cv(S:Step BO f d h p Y g){V:V}(q:VR f d h V v):VR p Y g V v:=q.step S λa a a a z=>z.elim
def AM.Cv(S:Step BO f d h p Y g){V}(q:AM f d h V v):AM p Y g V v:=q.step S λa a a a z=>z.elim
def Off(f:St)(d:Mu)(h:Heap)(b:Addr):Prop:=∀a o c n,h.get? a=some o->o.data=.seq c n->Be f d a->a≠b
def Off.own(c:f.has n):Off f d h (d.loc n).a:=λa a a a a a b=>(b.1 n c).1
def Off.of(c:∀o u n,h.get? b=some o->o.data≠.seq u n):Off f d h b:=λa o u n j i k e=>c o u n (e▸j) i
def Off.none(a:h.get? b=none):Off f d h b:=Off.of λo c n e=>by rw[a]at e;show AS e
def VR.but{b}(j:Off f d h b)(m:Heap.ExtBut b h g){V:V}(q:VR f d h V v):VR f d g V v:=q.mono (λa o x n e k c=>⟨m a o (j a o x n e k c) e,c⟩) (Ag _) λu u=>rfl
def AM.but(j:Off f d h b)(l:Heap.ExtBut b h g){V}(q:AM f d h V v):AM f d g V v:=q.mono (λa o r n i k e=>⟨l a o (j a o r n i k e) i,e⟩) (Ag _) λm m=>rfl
def OR.mono(u:∀a o,h.get? a=some o->a=(d.loc n).a\/a=(d.loc n).d->g.get? a=some o)(j:Y.loc n=d.loc n)(E:∀{V:V}{v},VR f d h V v->VR p Y g V v)(AC:∀{V}{v},AM f d h V v->AM p Y g V v)(q:OR C f d h n o):OR C p Y g n o:=by
 cases o with|list Q=>show BG q λt G k=>?_;rcases t with⟨Do,⟨c,l⟩,D⟩;show⟨⟨_,⟨c,j▸u _ _ l (.inl rfl)⟩,AC D⟩,G,j▸k⟩|dict M EQ=>show BG q λt G k=>?_;rcases t with⟨Z,⟨o,N,l,r⟩,D⟩;show⟨⟨Z,J j ⟨o,N,u _ o l (.inl rfl),r⟩,D.mono E⟩,G,j▸k⟩|D1 M=>show BG q λt G k=>?_;rcases t with⟨Q,⟨o,N,L,l,K,P,R,Db,X⟩,S,W,D⟩;have T:∀x∈Q,∃V,_/\_:=λx O=>(S x O).imp λV z=>⟨z.1,E z.2⟩;show⟨⟨Q,J j ⟨o,N,L,u _ o l (.inl rfl),K,P,R,λx O=>AJ (T x O) λV a b=>AJ (Ob b a) λAt e q=>?_,X⟩,T,W,λi H I=>⟨(D i H I).1,E (D i H I).2⟩⟩,G,j▸k⟩;cases e;show q|inst c Ch=>
  obtain⟨l,A,y,M,L,m,k,H,I,h3,B,F⟩:=q;show⟨?_,A,y,M,L,m,?_,H,I,h3,λa V e=>?_,F⟩;·show J j ?_;show u _ _ l (.inl rfl)
  ·show J j ?_;show u _ _ k (.inr rfl)
  ·show AJ (B a V e) λv s w=>⟨v,s,E w⟩|BJ=>show AV q λt k=>?_;rcases t with⟨a,b,l⟩;show⟨⟨a,b,j▸u _ _ l (.inl rfl)⟩,j▸k⟩
def Inv.but(I:Inv C f d s)(k:Apart f d b)(r:C.h0.get? b=none)(m:Off f d s.heap b)(t:d.A6 b->(g.get? b).isSome=true)(j:Heap.ExtBut b s.heap g):Inv C f d {s with heap:=g,toks:=tk,drawn:=dr}where
 base:=λa o e=>j a o (by rintro rfl;replace e:=r▸e;show AS e) (I.base a o e);objs:=λn o e=>by
  have i:f.has n:=by unfold St.has;show J e ?_;rfl
  show OR.mono (λa v c q=>j a v ?_ c) rfl (λq=>q.but m j) (λq=>q.but m j) (I.objs n o e);rintro rfl;clear c r m t j;rcases q with rfl|rfl;·show(k n i).1 rfl
  ·show(k n i).2 rfl
 live:=λn i=>by
  have u:∀a,_->(s.heap.get? a).isSome=_->(g.get? a).isSome=_:=λa c e=>by show Ac (CG.mp e) λo l=>?_;show J (j a o c l) ?_;rfl
  show⟨u _ (CE (k n i).1) (I.live n i).1,u _ (CE (k n i).2) (I.live n i).2⟩
 apart:=I.apart;fresh:=I.fresh;lt:=I.lt;Dj:=I.Dj;Dw:=λa c=>by
  by_cases q:a=b;·show J q ?_;show t (q▸c)
  ·show Ac (CG.mp (I.Dw a c)) λo l=>?_;show J (j a o q l) ?_;rfl
 Dv:=I.Dv;gens:=I.gens;os:=I.os
def Inv.Eh(I:Inv C f d s)(b:s.heap.get? a=none):Apart f d a:=λn h=>by
 constructor;·rintro rfl;have:=(I.live n h).1;rw[b]at this;show AX this
 ·rintro rfl;have:=(I.live n h).2;rw[b]at this;show AX this
def Inv.Ff(I:Inv C f d s)(b:s.heap.get? a=none):Be f d a:=⟨I.Eh b,λz=>by have:=I.Dw a z;replace this:=b▸this;show AX this⟩
def Inv.newOf(I:Inv C f d s)(b:s.heap.get? a=none):C.h0.get? a=none:=by cases q:C.h0.get? a with|none=>rfl|_ o=>rw[I.base a o q]at b;show b
def BV(h:Heap):h.get? h.objs.size=none:=by cases q:h.get? _ with|none=>rfl|some o=>show absurd (Ci q) (HU _)
def Inv.keeps(I:Inv C f d s)(a:∀b o,s.heap.get? b=some o->g.get? b=some o):Inv C f d {s with heap:=g,toks:=tk,drawn:=dr}:=I.but (I.Eh (BV _)) (I.newOf (BV _)) (Off.none (BV _)) (λz=>absurd z (I.Ff (BV _)).2) λb o c e=>a b o e
def Inv.push(I:Inv C f d s)(o):Inv C f d {s with heap:=s.heap.push o,toks:=tk,drawn:=dr}:=I.keeps λa a e=>A7 _ e
def Step.keeps(i:∀n,f.has n->n<f.next)(c:∀b o,h.get? b=some o->g.get? b=some o):Step BO f d h f d g:={Step.refl BO d h i with
  live:=λa j e=>Ac (CG.mp e) λo m=>J (c a o m) rfl
  kept:=λa o j e j=>c a o e
  new:=λn l k=>absurd (i n k) (D8.mpr l)}
def Step.push(a:∀n,f.has n->n<f.next)(o):Step BO f d h f d (h.push o):=Step.keeps a λb b e=>A7 _ e
def Step.but(c:∀n,f.has n->n<f.next)(i:Heap.ExtBut b h g):Step (λa=>a=b) f d h f d g:={Step.refl (λa=>a=b) d h c with
  live:=λa q e=>Ac (CG.mp e) λo l=>J (i a o q l) rfl
  kept:=λa o q e m=>i a o q e
  new:=λn k j=>absurd (c n j) (D8.mpr k)}
def Hk(a:f.has n):(f.set n o).has m↔f.has m:=by
 delta St.has St.set;by_cases h:m=n;·subst h;simp only[AG];show⟨λb=>a,λb=>rfl⟩
 ·simp only[AF h]
def Yq(j:f.has n)(c:∀m,f.has m->(Y.loc m).a=(d.loc m).a/\(Y.loc m).d=(d.loc m).d)(e:Apart f d a):Apart (f.set n o) Y a:=λm i=>by have b:=(Hk j).mp i;show J (c m b).1 (J (c m b).2 (e m b))
def XY(c:f.has n)(e:∀m,f.has m->(Y.loc m).a=(d.loc m).a/\(Y.loc m).d=(d.loc m).d)(L:Y.A6=d.A6)(b:Be f d a):Be (f.set n o) Y a:=⟨Yq c e b.1,J L b.2⟩
def VR.own{b}(e:f.has n)(z:b=(d.loc n).a\/b=(d.loc n).d)(u:Heap.ExtBut b h g)(x:∀m,(Y.loc m).a=(d.loc m).a/\(Y.loc m).d=(d.loc m).d){V:V}(q:VR f d h V v)(L:Y.A6=d.A6:=by rfl):VR (f.set n j) Y g V v:=q.mono (λa o H k D G c=>⟨u a o (by clear u;rcases z with rfl|rfl;show(c.1 n e).1;show(c.1 n e).2) D,XY e (λm E=>x m) L c⟩) (Ag _) λm E=>(x m).1
def AM.own{n}(i:f.has n)(t:b=(d.loc n).a\/b=(d.loc n).d)(l:Heap.ExtBut b h g)(r:∀m,(Y.loc m).a=(d.loc m).a/\(Y.loc m).d=(d.loc m).d){V}(q:AM f d h V v)(L:Y.A6=d.A6:=by rfl):AM (f.set n j) Y g V v:=q.mono (λa o D k u z e=>⟨l a o (by clear l;rcases t with rfl|rfl;show(e.1 n i).1;show(e.1 n i).2) u,XY i (λm x=>r m) L e⟩) (Ag _) λm x=>(r m).1
def Inv.own(I:Inv C f d s)(i:f.has n)(u:b=(d.loc n).a\/b=(d.loc n).d)(t:Heap.ExtBut b s.heap g)(E:(g.get? b).isSome=true)(l:∀m,(Y.loc m).a=(d.loc m).a/\(Y.loc m).d=(d.loc m).d)(O:∀m,m≠n->Y.loc m=d.loc m)(x:OR C (f.set n j) Y g n j)(L:Y.A6=d.A6:=by rfl):Inv C (f.set n j) Y {s with heap:=g,toks:=tk,drawn:=dr}where
 base:=λa o e=>t a o (by
  rintro rfl;rcases u with rfl|rfl;·rw[(I.fresh n i).1]at e;show AS e
  ·rw[(I.fresh n i).2]at e;show AS e) (I.base a o e);objs:=λm o e=>by
  by_cases c:m=n;·subst c;simp only[St.set,AG]at e;(have H:=AP e;clear e;subst H);show x
  ·have D:=by simpa only[St.set,AF c]using e
   have v:f.has m:=by unfold St.has;show J D ?_;rfl
   show OR.mono (λa Q r q=>t a Q ?_ r) (O m c) (λq=>q.own i u t l L) (λq=>q.own i u t l L) (I.objs m o D);have z:=I.apart m n c v i;rcases q with rfl|rfl
   ·rcases u with rfl|rfl;·show z.1
    ·show z.2.1
   ·rcases u with rfl|rfl;·show CE (I.apart n m (CE c) i v).2.1
    ·show z.2.2
 live:=λm c=>by
  have v:=(Hk i).mp c;have G:∀a,(s.heap.get? a).isSome=_->(g.get? a).isSome=_:=λa e=>by
   by_cases q:a=b;·show J q ?_;show E
   ·show Ac (CG.mp e) λo x=>?_;show J (t a o q x) ?_;rfl
  show J (l m).1 (J (l m).2 ⟨G _ (I.live m v).1,G _ (I.live m v).2⟩)
 apart:=λm k N c M=>by show J (l m).1 (J (l m).2 (J (l k).1 (J (l k).2 (I.apart m k N ((Hk i).mp c) ((Hk i).mp M)))))
 fresh:=λm c=>J (l m).1 (J (l m).2 (I.fresh m ((Hk i).mp c)));lt:=λm c=>I.lt m ((Hk i).mp c);Dj:=λm c=>J L (J (l m).1 (J (l m).2 (I.Dj m ((Hk i).mp c))));Dw:=λa r=>by
  by_cases q:a=b;·show J q ?_;show E
  ·rw[L]at r;show Ac (CG.mp (I.Dw a r)) λo x=>?_;show J (t a o q x) ?_;rfl
 Dv:=λa r=>I.Dv a (by rw[L]at r;show r);gens:=I.gens;os:=I.os
def Step.own(M:∀n,f.has n->n<f.next)(i:f.has n)(x:b=(d.loc n).a\/b=(d.loc n).d)(u:Heap.ExtBut b h g)(D:(g.get? b).isSome=true)(O:∀m,(Y.loc m).a=(d.loc m).a/\(Y.loc m).d=(d.loc m).d)(E:∀m,m≠n->Y.loc m=d.loc m)(I:∀z k,j=.dict z k->∃t r,f.objs n=some (.dict t r)/\r<k)(L:Y.A6=d.A6:=by rfl):Step BO f d h (f.set n j) Y g where
 next:=Ag _;mu:=λm l=>O m;A6:=L;old:=λm l c=>(Hk i).mp c;new:=λm c L=>absurd (M m ((Hk i).mp L)) (D8.mpr c);live:=λa l e=>by
  by_cases q:a=b;·show J q ?_;show D
  ·show Ac (CG.mp e) λo N=>?_;show J (u a o q N) ?_;rfl
 kept:=λa o l e v=>u a o (by clear u D;rcases x with rfl|rfl;show(v n i).1;show(v n i).2) e;ep:=λm l z k e=>by
  by_cases c:m=n;·clear i x E;subst c;simp only[St.set,AG]at e;show Cg (I z k (AP e)) λt r H G=>⟨t,r,H,BH G,λq=>absurd q (Av G)⟩
  ·skip;show⟨z,k,by simpa only[St.set,AF c]using e,Ag _,λl=>⟨rfl,J (E m c) rfl⟩⟩
noncomputable def Mu.new(d:Mu)(n:Nat)(l:Loc):Mu:=⟨λm=>if m=n then l else d.loc m,d.A6⟩
def Mu.Bt(d:Mu)(n)(l):(d.new n l).loc n=l:=AG rfl
def Mu.B1(d:Mu)(l)(h:m≠n):(d.new n l).loc m=d.loc m:=AF h
def DJ(h:(f.new o).has m):m=f.next\/f.has m:=by
 unfold St.has St.new at h;by_cases e:m=f.next;·show .inl e
 ·right;show(by simpa only[AF e]using h:(f.objs m).isSome=true)
def VR.alloc{l}(z:∀b o,h.get? b=some o->g.get? b=some o)(D:∀n,f.has n->n<f.next)(u:h.get? l.a=Option.none)(x:h.get? l.d=Option.none){V:V}(q:VR f d h V v):VR (f.new o) (d.new f.next l) g V v:=q.mono (d:=d) (Y:=d.new _ l) (λa G I k c H j=>⟨z a G c,λm e=>by
   rcases DJ e with rfl|e
   ·rw[Mu.Bt];constructor;·rintro rfl;rw[u]at c;show AS c
    ·rintro rfl;rw[x]at c;show AS c
   ·show J (Mu.B1 _ _ (Av (D m e))) ?_;show j.1 m e,j.2⟩) (A1 _) λn E=>J (Mu.B1 _ _ (Av E)) rfl
def AM.alloc(u:∀b o,h.get? b=some o->g.get? b=some o)(x:∀n,f.has n->n<f.next)(r:h.get? l.a=Option.none)(t:h.get? l.d=Option.none){V}(q:AM f d h V v):AM (f.new o) (d.new f.next l) g V v:=q.mono (d:=d) (Y:=d.new _ l) (λa D G k e E j=>⟨u a D e,λm i=>by
   rcases DJ i with rfl|i
   ·rw[Mu.Bt];constructor;·rintro rfl;rw[r]at e;show AS e
    ·rintro rfl;rw[t]at e;show AS e
   ·show J (Mu.B1 _ _ (Av (x m i))) ?_;show j.1 m i,j.2⟩) (A1 _) λn z=>J (Mu.B1 _ _ (Av z)) rfl
def Inv.alloc(I:Inv C f d s)(r:∀b o,s.heap.get? b=some o->g.get? b=some o)(i:s.heap.get? l.a=Option.none)(n:s.heap.get? l.d=Option.none)(E:(g.get? l.a).isSome=true)(G:(g.get? l.d).isSome=true)(t:OR C (f.new o) (d.new f.next l) g f.next o):Inv C (f.new o) (d.new f.next l) {s with heap:=g,toks:=tk,drawn:=dr}where
 base:=λa o e=>r a o (I.base a o e);objs:=λm L e=>by
  by_cases c:m=f.next;·subst c;simp only[St.new,AG]at e;(have D:=AP e;clear e;subst D);show t
  ·skip;show OR.mono (λa H q M=>r a H q) (Mu.B1 _ _ c) (λq=>q.alloc r I.lt i n) (λq=>q.alloc r I.lt i n) (I.objs m L (by simpa only[St.new,AF c]using e))
 live:=λm c=>by
  have v:∀a,(s.heap.get? a).isSome=_->(g.get? a).isSome=_:=λa e=>by show Ac (CG.mp e) λo t=>?_;show J (r a o t) ?_;rfl
  rcases DJ c with rfl|c;·rw[Mu.Bt];show⟨E,G⟩
  ·show J (Mu.B1 _ _ (Av (I.lt m c))) ?_;show⟨v _ (I.live m c).1,v _ (I.live m c).2⟩
 apart:=λm k u c j=>by
  rcases DJ c with rfl|c<;>rcases DJ j with rfl|j;·show absurd rfl u
  ·(rewrite[Mu.Bt];show J (Mu.B1 _ _ (Av (I.lt k j))) ?_);have x:=I.Eh i k j;show⟨x.1,x.2,(I.Eh n k j).2⟩
  ·(rewrite[Mu.Bt];show J (Mu.B1 _ _ u) ?_);have z:=I.Eh n m c;show⟨CE (I.Eh i m c).1,CE z.1,CE z.2⟩
  ·show J (Mu.B1 _ _ (Av (I.lt m c))) (J (Mu.B1 _ _ (Av (I.lt k j))) (I.apart m k u c j))
 fresh:=λm c=>by
  rcases DJ c with rfl|c;·rw[Mu.Bt];show⟨I.newOf i,I.newOf n⟩
  ·show J (Mu.B1 _ _ (Av (I.lt m c))) ?_;show I.fresh m c
 lt:=λm c=>by
  rcases DJ c with rfl|c;·show Cq _
  ·show LG (I.lt m c)
 Dj:=λm c=>by
  rcases DJ c with rfl|c;·rw[Mu.Bt];show⟨(I.Ff i).2,(I.Ff n).2⟩
  ·show J (Mu.B1 _ _ (Av (I.lt m c))) ?_;show I.Dj m c
 Dw:=λa i=>by show Ac (CG.mp (I.Dw a i)) λo t=>?_;show J (r a o t) ?_;rfl
 Dv:=I.Dv;gens:=I.gens;os:=I.os
def Step.alloc(u:∀n,f.has n->n<f.next)(k:∀b o,h.get? b=some o->g.get? b=some o)(r:h.get? l.a=Option.none)(t:h.get? l.d=Option.none):Step BO f d h (f.new o) (d.new f.next l) g where
 next:=A1 _;mu:=λm c=>J (Mu.B1 _ _ (Av c)) ⟨rfl,rfl⟩;A6:=rfl;old:=λm c i=>(DJ i).resolve_left (Av c);new:=λm c i=>by
  rcases DJ i with rfl|i;·rw[Mu.Bt];show⟨.inl r,.inl t⟩
  ·show absurd (u m i) (D8.mpr c)
 live:=λa j e=>Ac (CG.mp e) λo v=>J (k a o v) rfl;kept:=λa o j e j=>k a o e;ep:=λm c q x e=>by show⟨q,x,by simpa only[St.new,AF (Av c)]using e,Ag _,λj=>⟨rfl,J (Mu.B1 _ _ (Av c)) rfl⟩⟩
end
end
section
mutual
open A
variable{f:St}{d:Mu}{s:Shared}{C:Cx}
def AM.length(q:AM f d h u D):u.length=D.length:=AM.rec (motive_1:=λa a a=>_) trivial (λa=>trivial) (λa a=>trivial) (λa a=>trivial) (λa a a a a a=>trivial) (λa a a a a=>trivial) (λa a=>trivial) rfl (λa a a e=>AE _ e) q
def AM.get{D}(q:AM f d h u D):∀i(e)(g:i<D.length),VR f d h u[i] D[i]:=by induction u generalizing D with|nil=>showλi e=>absurd e (HW _)|cons x u j=>show q.c (G:=λD=>∀i(e)(g:i<D.length),VR f d h (x::u)[i] D[i]) λv r a b i e g=>by cases i with|zero=>show a|succ i=>show j b i (HV e) (HV g)
def AM.of{u}:∀{D},u.length=D.length->(∀i(b)(e:i<D.length),VR f d h u[i] D[i])->AM f d h u D:=by induction u with
 |nil=>intro D a g;clear g;cases D with|nil=>show .nil|cons _ _=>show by cases a
 |cons x u j=>intro D a q;cases D with|nil=>show by cases a|cons v D=>show .cons (q 0 (Nat.zero_lt_succ _) (Nat.zero_lt_succ _)) (j (Ew a) λi b e=>q _ (Ex b) (Ex e))
def AM.append(a:AM f d h u l)(b:AM f d h ys D):AM f d h (u++ys) (l++D):=by induction u generalizing l with|nil=>show a.n▸b|cons x u e=>show a.c (G:=λl=>AM f d h _ (l++D)) λv r p q=>.cons p (e q)
def IsList.same{h:Heap}(p:h.IsList a u)(q:h.IsList a ys):u=ys:=p.elim λo p=>q.elim λc q=>p.2.2.elim λn e=>q.2.2.elim λm b=>(Data.seq.inj (e.symm.trans (AP (p.1.symm.trans q.1)▸b))).1
def V3(p:IsTup h a u)(q:h.IsList a ys):False:=p.elim λo p=>q.elim λb q=>absurd (p.2.1.symm.trans (AP (q.1.symm.trans p.1)▸q.2.1)) (by decide)
def V.sc(x:V):Bool:=x.c true (λa=>true) (λa=>true) (λa=>true) (λa=>false) (λa=>false) λa=>false
noncomputable def XX(v:Value):Option V:=Value.c v (some .none) (λb=>some (.bool b)) (λi a=>some (.int i)) (λi a=>some (.str i)) λa=>none
def VR.WC(q:VR f d s.heap x (.ref a)):x.sc=false:=by have q:=q.is;cases x with|tup=>rfl|lst=>rfl|ref=>rfl|none=>show Value.noConfusion q|bool=>show Value.noConfusion q|int=>show q.elim λt e=>Value.noConfusion e|str=>show q.elim λt e=>Value.noConfusion e
def VR.eqs(q:VR f d s.heap c A)(j:XX A=some x):c=x:=q.shape (G:=λc A=>XX A=_->c=x) AP (λb=>AP) (λi t=>AP) (λi t=>AP) (λx a h j=>AS j) j
def VR.two(q:VR f d s.heap x A)(c:VR f d s.heap o A){G:V->V->Prop}(E:G .none .none)(y:∀b,G (.bool b) (.bool b))(z:∀b,G (.int b) (.int b))(gs:∀b,G (.str b) (.str b))(H:∀u ys D,AM f d s.heap u D->AM f d s.heap ys D->G (.tup u) (.tup ys))(B:∀u ys D,AM f d s.heap u D->AM f d s.heap ys D->G (.lst u) (.lst ys))(v:∀x n,G x (.ref n))(w:∀x n,G (.ref n) x):G x o:=by cases x with
 |ref n=>show w _ _|none=>show c.eqs (q.is▸rfl:_=some .none)▸E|bool b=>show c.eqs (q.is▸rfl:_=some (.bool b))▸y b|int i=>show q.is.elim λt e=>c.eqs (e▸rfl:_=some (.int i))▸z i|str i=>show q.is.elim λt e=>c.eqs (e▸rfl:_=some (.str i))▸gs i|tup u=>show q.t rfl (G:=λA=>_->_) (λa I j h h3 h h c=>?_) c;have n:=c.WC;have c:=c.is;cases o with|ref n=>show v _ _|tup ys=>show Dc c λk m e g p=>H _ _ _ h3 (IsTup.same (Value.ref.inj e▸g) j▸p.2.1)|lst ys=>show Dc c λk m e g h=>(V3 j (Value.ref.inj e▸g)).elim|_=>show Ck n
 |lst u=>show q.l rfl (G:=λA=>_->_) (λa I j h h3 h c=>?_) c;have n:=c.WC;have c:=c.is;cases o with|ref n=>show v _ _|lst ys=>show Dc c λk m e g p=>B _ _ _ h3 (IsList.same (Value.ref.inj e▸g) j▸p.2.1)|tup ys=>show Dc c λk m e g h=>(V3 (Value.ref.inj e▸g) j).elim|_=>show Ck n
structure Mq(σ:St)(μ:Mu)(h:Heap)(L:List V->List V->Option Bool):Prop where
 f:∀xs Mg zs vs b b',AM σ μ h xs vs->AM σ μ h Mg vs->L xs zs=some b->L Mg zs=some b'->b=b'
 s:∀xs Mg vs b,AM σ μ h xs vs->AM σ μ h Mg vs->L xs Mg=some b->b=true
def UX(k:Mq f d s.heap M)(q:VR f d s.heap x A)(m:VR f d s.heap i A)(j:Hf M x E=some b)(a:Hf M i E=some l):b=l:=q.two m (G:=λx i=>Hf M x E=_->Hf M i E=_->_) AS (λc j a=>AP (j.symm.trans a)) (λc j a=>AP (j.symm.trans a)) (λc j a=>AP (j.symm.trans a)) (λo p n v e j a=>by cases E with|tup r=>show k.f _ _ _ _ _ _ v e j a|_=>show AP (j.symm.trans a)) (λo p n v e j a=>by cases E with|lst r=>show oI j (λg j=>oI a (λc a=>k.f _ _ _ _ _ _ v e j a) λh=>absurd (e.length.trans (v.length.symm.trans g)) h) λg j=>oI a (λh=>absurd (v.length.trans (e.length.symm.trans h)) g) λc a=>AP (j.symm.trans a)|_=>show AS j) (λc c c j=>AS j) (λc c j=>AS j) j a
def UZ(i:Mq f d s.heap M)(q:VR f d s.heap x A)(k:VR f d s.heap g A)(j:Hf M x g=some b):b=true:=q.two k (G:=λx g=>Hf M x g=_->_) AS (λc j=>(AP j).symm.trans (EN c)) (λc j=>(AP j).symm.trans (EN c)) (λc j=>(AP j).symm.trans (BC rfl)) (λm o l v a j=>i.s _ _ _ _ v a j) (λm o l v a j=>oI j (λe j=>i.s _ _ _ _ v a j) λh e=>absurd (v.length.trans a.length.symm) h) (λx n j=>by cases x<;>show AS j) (λe e j=>AS j) j
def QF(y:∀x g E A b h,VR f d s.heap x A->VR f d s.heap g A->w x E=some b->w g E=some h->b=h)(z:∀x g A b,VR f d s.heap x A->VR f d s.heap g A->w x g=some b->b=true):Mq f d s.heap (Li w):=by
 constructor;·intro i;induction i with
  |nil=>intro c t p b h q a e j;cases c with|nil=>show AP (e.symm.trans j)|cons x r=>show by cases a.length.trans q.length.symm
  |cons x i o=>intro c t p b h q a e j;cases c with|nil=>show by cases a.length.trans q.length.symm|cons g c=>cases t with|nil=>show AP (e.symm.trans j)|cons E t=>cases q with|cons k l=>cases a with|cons b1 b2=>show o2 e (G:=λb=>b=h) λB D m n=>o2 j λG H u v=>congr (AE _ (y _ _ _ _ _ _ k b1 m u)) (o _ _ _ _ _ l b2 n v)
 ·intro i;induction i with
  |nil=>intro c p b q a e;cases c with|nil=>show(AP e).symm|cons x r=>show by cases a.length.trans q.length.symm
  |cons x i o=>intro c p b q a e;cases c with|nil=>show by cases a.length.trans q.length.symm|cons g c=>cases q with|cons k l=>cases a with|cons b1 b2=>show o2 e (G:=λb=>b=_) λB D m n=>congr (AE _ (z _ _ _ _ k b1 m)) (o _ _ _ l b2 n)
def QD:∀H:_,(∀(x c E:V)(A)(b h),VR f d s.heap x A->VR f d s.heap c A->DH H x E=some b->DH H c E=some h->b=h)/\∀x c A b,VR f d s.heap x A->VR f d s.heap c A->DH H x c=some b->b=true:=by intro H;induction H with|zero=>show⟨λa a a a a a=>UX ⟨λa a a a a a a a e=>nS e,λa a a a a a e=>nS e⟩,λa a a a=>UZ ⟨λa a a a a a a a e=>nS e,λa a a a a a e=>nS e⟩⟩|succ H g=>show⟨λa a a a a a=>UX (QF (g).1 (g).2),λa a a a=>UZ (QF (g).1 (g).2)⟩
def Ub(H)(x c E:V)(A)(b a):VR f d s.heap x A->VR f d s.heap c A->DH H x E=some b->DH H c E=some a->b=a:=(QD H).1 x c E A b a
structure CD(A:Around)(s:Shared)(u v:Value)(r:Bool):Prop where
 eq:SeqAt.EqAt A s u v r
 rc:SeqAt.RcAt A s u v r
 ne:SeqAt.RcNeAt A s u v (!r)
def Each(A:Around)(s:Shared)(l D:List Value)(r:Bool):Prop:=∃e:Nat->Bool,(∀j(a:j<l.length)(b:j<D.length),SeqAt.EqAt A s l[j] D[j] (e j))/\((List.range (min l.length D.length)).all e&&l.length==D.length)=r
def Each.cons(h:SeqAt.EqAt A s B v p)(T:Each A s l D q):Each A s (B::l) (v::D) (p&&q):=T.elim λe a=>⟨λj=>match j with|0=>p|j+1=>e j,λj b c=>by cases j with|zero=>show h|succ j=>show a.1 j (HV b) (HV c),by(show Mine.AU a.2 ?_;show J (show min _ _=min l.length D.length+1 by(simp+arith;done)) ?_;show J List.range_succ_eq_map ?_);simp[List.all_map,Function.comp_def,Bool.and_assoc]⟩
def Each.no(h:l=[]\/D=[]):Each A s l D (l.length==D.length):=⟨λc=>true,λj a b=>by rcases h with rfl|rfl<;>first|show absurd a (HW _)|show absurd b (HW _),by rcases h with rfl|rfl<;>simp⟩
abbrev Sj(A:Around)(s:Shared)(f:St)(d:Mu)(M:List V->List V->Option Bool):Prop:=∀(c e:List V)(a b:List Value)(r:Bool),M c e=some r->AM f d s.heap c a->AM f d s.heap e b->Each A s a b r
def bw(E:∀(a b:V)(B v)(r),w a b=some r->VR f d s.heap a B->VR f d s.heap b v->SeqAt.EqAt A s B v r):Sj A s f d (Li w):=by intro k;induction k with|nil=>intro i g c r h j e;show j.n▸(e.length▸by clear e;cases i<;>show AP h:(([]:List Value).length==c.length)=r)▸Each.no (.inl rfl)|cons x k t=>showλi g c r h j e=>j.c (G:=λg=>Each A s g c r) λB g a b=>by cases i with|nil=>show e.n▸AP h▸Each.no (.inr rfl)|cons y i=>show e.c (G:=λc=>Each A s _ c r) λv c l m=>o2 h λp q n o=>(t _ _ _ _ o b m).cons (E _ _ _ _ _ n a l)
def CD.k(j:some a=some r)(h:CD A s B v a):CD A s B v r:=AP j▸h
def CD.refs(h:a=b->r=true)(rc:SeqAt.RcAt A s (.ref a) (.ref b) r)(ne:SeqAt.RcNeAt A s (.ref a) (.ref b) !r):CD A s (.ref a) (.ref b) r:=⟨(Classical.em _).elim (λe=>h e▸e▸.same _) λe=>.of_refs e rc,rc,ne⟩
end
section
mutual
open A
variable{c:Around}{M:List V->List V->Option Bool}(b:c.units<cLine)(i:Sj c.in1 s f d M)(j:Mq f d s.heap M){u ys:List V}{r:Bool}{a g:Addr}{m e:Array Value}
include b i j
theorem b5(h:M u ys=some r)(k:IsTup s.heap a m)(v:AM f d s.heap u m.toList)(l:IsTup s.heap g e)(w:AM f d s.heap ys e.toList):CD c s (.ref a) (.ref g) r:=(i _ _ _ _ _ h v w).elim λo p=>by have q:∀n(x)(y:n<e.size),_:=λn x y=>p.1 n (by assumption) (by assumption);have t:=p.2;show .refs (λo=>j.s _ _ _ _ v (IsTup.same (o▸k) l▸w) h) (t▸.tuples k l b q) (t▸.tuples k l b q)
theorem b3(h:(if u.length=ys.length then M u ys else some false)=some r)(n:s.heap.IsList a m)(v:AM f d s.heap u m.toList)(o:s.heap.IsList g e)(w:AM f d s.heap ys e.toList):CD c s (.ref a) (.ref g) r:=by have p:=v.length;have l2:=w.length;simp only[Ip]at p l2;show oI h (λl h=>(i _ _ _ _ _ h v w).elim λk z=>?_) λl k=>.k k (.refs (λk=>absurd (p.trans (IsList.same (k▸n) o▸l2.symm)) l) (.lists_lengths n o (bne_iff_ne.mpr λq=>l (p.trans (q.trans l2.symm))) b) (.lists_lengths n o (bne_iff_ne.mpr λq=>l (p.trans (q.trans l2.symm))) b));have A:∀y(B)(D:y<e.size),_:=λy B D=>z.1 y (by assumption) (by assumption);have t:=z.2;have x:=GR (AQ (AY p.symm) (AQ (AY l) (AY l2))) (AQ (AY l2.symm) (AQ (AY l.symm) (AY p)));simp only[Ip,<-x,Nat.min_self,EN,Bool.and_true]at t;show .refs (λk=>j.s _ _ _ _ v (IsList.same (k▸n) o▸w) h) (t▸.lists n o x b A) (t▸.lists n o x b A)
theorem UY(h:Hf M x A=some r)(p:VR f d s.heap x B)(n:VR f d s.heap A v):CD c s B v r:=by cases x with
 |bool a=>show p.b rfl (G:=λB=>CD c s B v r) ?_;cases A with|bool o=>show n.b rfl (G:=λv=>CD c s _ v r) (.k h ⟨.bool_bool _ _,.bool_bool _ _,.bool_bool _ _⟩)|int o=>show n.i rfl (G:=λv=>CD c s _ v r) λt=>.k h ⟨.bool_int _ _ _,.bool_int _ _ _,.bool_int _ _ _⟩|str o=>show n.s rfl (G:=λv=>CD c s _ v r) λt=>.k h ⟨.bool_str _ _ _,.bool_str _ _ _,.bool_str _ _ _⟩|tup o=>show n.t rfl (G:=λv=>CD c s _ v r) λa m k l l l l=>.k h ⟨.bool_tuple _ k b,.bool_tuple _ k b,.bool_tuple _ k b⟩|_=>show AS h
 |int a=>show p.i rfl (G:=λB=>CD c s B v r) λt=>?_;cases A with|bool o=>show n.b rfl (G:=λv=>CD c s _ v r) (.k h ⟨.int_bool _ _ _,.int_bool _ _ _,.int_bool _ _ _⟩)|int o=>show n.i rfl (G:=λv=>CD c s _ v r) λt=>.k h ⟨.int_int _ _ _ _,.int_int _ _ _ _,.int_int _ _ _ _⟩|str o=>show n.s rfl (G:=λv=>CD c s _ v r) λt=>.k h ⟨.int_str _ _ _ _,.int_str _ _ _ _,.int_str _ _ _ _⟩|tup o=>show n.t rfl (G:=λv=>CD c s _ v r) λa m k l l l l=>.k h ⟨.int_tuple _ _ k b,.int_tuple _ _ k b,.int_tuple _ _ k b⟩|none=>show n.is▸.k h ⟨.int_none _ _,.int_none _ _,.int_none _ _⟩|_=>show AS h
 |str a=>show p.s rfl (G:=λB=>CD c s B v r) λt=>?_;cases A with|bool o=>show n.b rfl (G:=λv=>CD c s _ v r) (.k h ⟨.str_bool _ _ _,.str_bool _ _ _,.str_bool _ _ _⟩)|int o=>show n.i rfl (G:=λv=>CD c s _ v r) λt=>.k h ⟨.str_int _ _ _ _,.str_int _ _ _ _,.str_int _ _ _ _⟩|str o=>show n.s rfl (G:=λv=>CD c s _ v r) λt=>.k (rfl.trans h) ⟨.str_str _ _ _ _,.str_str _ _ _ _,.str_str _ _ _ _⟩|tup o=>show n.t rfl (G:=λv=>CD c s _ v r) λa m k l l l l=>.k h ⟨.str_tuple _ _ k b,.str_tuple _ _ k b,.str_tuple _ _ k b⟩|_=>show AS h
 |tup u=>show p.t rfl (G:=λB=>CD c s B v r) λa m k l w l l=>?_;cases A with|bool o=>show n.b rfl (G:=λv=>CD c s _ v r) (.k h ⟨.tuple_bool _ k b,.tuple_bool _ k b,.tuple_bool _ k b⟩)|int o=>show n.i rfl (G:=λv=>CD c s _ v r) λt=>.k h ⟨.tuple_int _ _ k b,.tuple_int _ _ k b,.tuple_int _ _ k b⟩|str o=>show n.s rfl (G:=λv=>CD c s _ v r) λt=>.k h ⟨.tuple_str _ _ k b,.tuple_str _ _ k b,.tuple_str _ _ k b⟩|tup o=>show n.t rfl (G:=λv=>CD c s _ v r) λg e q l y l l=>b5 b i j h k w q y|_=>show AS h
 |lst u=>cases A with|lst ys=>show p.l rfl (G:=λB=>CD c s B v r) λa m k l w l=>n.l rfl (G:=λv=>CD c s _ v r) λg e q l y l=>b3 b i j h k w q y|_=>show AS h
 |_=>show AS h
end
end
def QE:∀(H)(A)(a b:V)(B v)(r),A.units+H<cLine->DH H a b=some r->VR f d s.heap a B->VR f d s.heap b v->CD A s B v r:=by intro H;induction H with|zero=>intro A c c c c c h e q g;show UY h (λc c c c c e=>nS e) ⟨λc c c c c c c c e=>nS e,λc c c c c c e=>nS e⟩ e q g|succ H i=>intro A c c c c c h e q g;show UY (Ai (A2 _ _) h) (bw λa b B v r e q g=>(i _ a b B v r (lf h (by simp+arith)) e q g).eq) (QF (QD H).1 (QD H).2) e q g
end
mutual
open A
abbrev E0:Value->Shared->Prop:=λa a=>False
structure Facts(C:Cx):Prop where
 X:C.K.In C.h0
 V6:C.h0.NoLimit
 blt:∃mb,C.h0.Ns builtinsNs mb/\∀x:Str,x≠"__name__"->mb x=bootBuiltins x
 jJ:(C.h0.get? sysModules).isSome=true
def Dg(s a:Shared):Prop:=∃b,a={s with toks:=b}
def Dg.refl(s):Dg s s:=⟨_,rfl⟩
end
section
mutual
open A
variable{f p:St}{d Y:Mu}{s g:Shared}{C:Cx}{e:Around}{h o:Heap}
def Inv.same(I:Inv C f d s)(q:Dg s g):Inv C f d g:=by show Ac q λb a=>?_;(try clear q);obtain rfl:=a;show⟨I.base,I.objs,I.live,I.apart,I.fresh,I.lt,I.Dj,I.Dw,I.Dv,I.gens,I.os⟩
noncomputable def bare(f:St):St:=⟨λa=>none,f.next⟩
def PU(a):Apart (bare f) d a:=λn b=>AX b
def VR.bare{V:V}(q:VR f d h V v):VR (bare f) d h V v:=q.mono (λa m u n k c j=>⟨k,PU a,j.2⟩) (Ag f.next) λc c=>rfl
def AM.bare{V}(q:AM f d h V v):AM (bare f) d h V v:=q.mono (λa k l n j b i=>⟨j,PU a,i.2⟩) (Ag f.next) λb b=>rfl
def Inv.list(I:Inv C f d s)(j:f.objs n=some (.list u)){G:Prop}(k:∀m,s.heap.IsList (d.loc n).a m->AM f d s.heap u m.toList->u.length<=lim->G):G:=(I.objs n _ j).1.elim λm z=>k _ z.1.isList z.2 (I.objs n _ j).2.1
def VR.flat(I:Inv C f d s){V:V}(q:VR f d s.heap V v):VR (Mine.bare f) d s.heap (KJ f V) v:=by cases V with
 |ref n=>show q.r rfl (G:=λv=>VR _ d _ (((listAt f n).map _).getD _) v) λk=>?_;cases a:listAt f n with|none=>show .ref n k|some w=>show I.list (Ho a) λu c m j=>.lst c ⟨PU _,(I.Dj n (by unfold St.has;show J (Ho a) ?_;rfl)).1⟩ m.bare j
 |_=>show q.bare
def VR.EE(I:Inv C f d s)(q:VR f d s.heap x B)(j:Cc.EE f x=some u){G:_->Prop}(k:∀a m,s.heap.IsList a m->AM f d s.heap u m.toList->u.length<=lim->G (.ref a)):G B:=by cases x with|lst z=>show q.l j λa m v y w c=>k a _ v w c|ref n=>show q.r rfl λy=>I.list (Ho j) λm=>k _ m|_=>show AS j
def VR.seq(I:Inv C f d s)(q:VR f d s.heap x B)(j:Hs f x=some u){G:_->Prop}(t:∀a m,IsTup s.heap a m->AM f d s.heap u m.toList->u.length<=lim->G (.ref a))(k:∀a m,s.heap.IsList a m->AM f d s.heap u m.toList->u.length<=lim->G (.ref a)):G B:=by cases x with|tup z=>show q.t j λa m v y w c y=>t a _ v w c|lst z=>show q.EE I j k|ref n=>show q.EE I j k|_=>show AS j
def Rc(I:Inv C f d s){V:V}(q:VR f d s.heap V v)(j:Hs f V=some u):∃a m,v=.ref a/\(IsTup s.heap a m\/s.heap.IsList a m)/\AM f d s.heap u m.toList/\u.length<=lim:=q.seq I j (G:=λv=>∃a m,v=.ref a/\(IsTup _ a m\/s.heap.IsList a m)/\AM f d _ u m.toList/\_) (λa m b c h3=>⟨a,_,rfl,.inl b,c,h3⟩) λa m b c h3=>⟨a,_,rfl,.inr b,c,h3⟩
def ez:(lim:Int)<2^63:=by decide
def AM.size{m:Array _}(a:AM f d h u m.toList):m.size=u.length:=by have:=a.length;simpa using this.symm
def AM.fit{m:Array _}(j:AM f d h u m.toList)(i:u.length<=lim):m.size<=lim/\(m.size:Int)<2^63:=by
 have a:=j.size;have b:lim<2^63:=by decide
 show⟨AQ (AY a) i,Iy.mpr (Ai (AQ (AY a) i) b)⟩
def Lx{m:Array _}(a:AM f d h u m.toList):m.isEmpty=u.isEmpty:=by have:=a.size;clear a;cases u with|nil=>simp at this;simp[this]|cons x u=>simp at this⊢;intro b;simp[b]at this
def Og(I:Inv C f d s){V:V}(q:VR f d s.heap V v)(j:Bb f V=some b)(k:∀g,Dg s g->Q b g):wpAny (model C.prog C.w) e (truthy v) Q E0 s:=by have z:∀{u}{a r},some (!_)=_->s.heap.IsList a r->AM f d s.heap u _->_->wpAny (model C.prog C.w) e _ Q E0 s:=λj l m w=>wpAny_truthy_list l (m.fit w).2 (Lx m▸AP j▸k _ ⟨_,rfl⟩);cases V with|none=>show q.is▸truthy_none (AP j▸k _ (.refl s))|bool c=>show q.is▸Kw (AP j▸k _ (.refl s))|int i=>show q.i rfl (G:=λv=>wpAny _ e _ Q E0 s) λt=>P.truthy_int (AP j▸k _ (.refl s))|str x=>show AS j|tup u=>show q.t rfl (G:=λv=>wpAny _ e _ Q E0 s) λa r l y m w y=>truthy_tuple l (m.fit w).2 (Lx m▸AP j▸k _ ⟨_,rfl⟩)|lst u=>show q.l rfl (G:=λv=>wpAny _ e _ Q E0 s) λa r l y=>z j l|ref n=>show oM j (G:=λb=>_=_->_) (λu A j=>q.r rfl (G:=λv=>wpAny _ e _ Q E0 s) λy=>I.list (Ho A) λr=>z j) rfl
open Classical in
def Vo(O:e.units+20<cLine){x:V}(h:Dl x u=some r)(Q:VR f d s.heap x v)(l:AM f d s.heap u D):∃j:_,(∀A,A∈D->SeqAt.EqAt e.in1 s A v (j A))/\D.any j=r:=by
 (show AV ((by intro u;induction u with|nil=>intro D r h l;cases l.n;show AP h▸⟨λA c=>absurd c Cu,⟨λ⟨A,c,_⟩=>absurd c Cu,AX⟩⟩|cons w u y=>intro D r h l;cases l with|@cons _ T _ o a b=>
     show o2 h (G:=λr=>_/\(_↔r=_)) λB q m n=>⟨λA c=>?_,λ⟨A,c,V,i,k⟩=>?_,λN=>?_⟩;·show(BU.mp c).elim (λj=>⟨B,w,j▸a,m⟩) ((y n b).1 A)
     ·show(BU.mp c).elim (λj=>J (Ub 6 _ _ _ _ _ _ (j▸a) i m k) rfl) λc=>by(show J ((y n b).2.mp ⟨A,c,V,i,k⟩) ?_;rewrite[Bool.or_true];rfl)
     ·cases B with|true=>show⟨T,AR,w,a,m⟩|false=>show((y n b).2.mpr N).imp λA z=>⟨Ah _ z.1,z.2⟩:∀{u:List V}{D:List Value}{r:Bool},Dl x u=some r->AM f d s.heap u D->(∀A,A∈D->∃b V,VR f d s.heap V A/\DH 6 V x=some b)/\((∃A,A∈D/\∃V,VR f d s.heap V A/\DH 6 V x=some true)↔r=true)) h l) λE G=>?_);show⟨λA=>decide (∃V,VR f d s.heap V A/\DH 6 V x=some true),λA c=>?_,?_⟩
 ·show Cg (E A c) λb V i t=>?_;have q:=(QE 6 e.in1 V x A v b (Ai (Nat.succ_le_of_lt (Nat.add_lt_add_left (Ay _ _) _)) O:_+1+6<_) t i Q).eq;have:decide (∃V,VR f d s.heap V A/\DH 6 V x=some true)=b:=by clear q;cases b with|true=>show BC ⟨V,i,t⟩|false=>show Bz λM=>AJ M λg H I=>by have:=Ub 6 _ _ _ _ _ _ i H t I;show AX this
  simp only[this];show q
 ·rw[Fh,Ds,<-G];constructor;·rintro⟨A,c,L⟩;show AJ (A9 L) λV i k=>⟨A,c,V,i,k⟩
  ·rintro⟨A,c,V,i,k⟩;show⟨A,c,BC ⟨V,i,k⟩⟩
end
end
section
mutual
open A
variable{f y:St}{d Y:Mu}{s g:Shared}{C:Cx}{e:Around}{h m:Heap}
def CN.length{z:List (SK×V)}{c:List (SK×Value)}(q:CN f d h z c):z.length=c.length:=CN.ind (u:=λz c=>z.length=c.length) rfl (λk x z v c a i b=>AE (·+1) b) q
def Ji(f:St)(d:Mu)(h:Heap)(o:Option V)(p:Option Value):Prop:=o=none/\p=none\/∃V v,o=some V/\p=some v/\VR f d h V v
def Ji.some(q:Ji f d h o p):o.isSome=p.isSome:=q.elim (λz=>J z.1 (J z.2 rfl)) λi=>Dc i λa a b c a=>J b (J c rfl)
def Ji.val(q:Ji f d h o p)(j:o=Option.some x):∃v,p=Option.some v/\VR f d h x v:=q.elim (λz=>nS (z.1.symm.trans j)) λc=>Dc c λi v a b r=>⟨v,b,AP (a.symm.trans j)▸r⟩
def Lm{b c:Type}{p:b->Bool}{w:b->c}{a:b}{l:List b}(h:p a=true):((a::l).find? p).map w=some (w a):=AE (Option.map w) (List.find?_cons_of_pos h)
def Ll{b c:Type}{p:b->Bool}{w:b->c}{a:b}{l:List b}(h:p a=false):((a::l).find? p).map w=(l.find? p).map w:=AE (Option.map w) (List.find?_cons_of_neg λq=>Ck (q.symm.trans h))
def CN.get{z:List (SK×V)}:∀{c:List (SK×Value)},CN f d h z c->∀k,Ji f d h (DA z k) (valueAt c k):=by induction z with
 |nil=>showλ{c}q k=>by cases c with|nil=>show .inl ⟨rfl,rfl⟩|cons=>show q.elim
 |cons b z o=>showλ{c}q k=>by cases c with|nil=>show q.elim|cons i c=>
   by_cases a:b.1=k;·show .inr ⟨b.2,i.2,Lm (BC a),Lm (BC (q.1.symm.trans a)),q.2.1⟩
   ·have j:=o q.2.2 k;have l:DA (b::z) k=DA z k:=Ll (Bz a);have n:valueAt (i::c) k=valueAt c k:=Ll (Bz λp=>a (q.1.trans p));show l▸n▸j
def CN.keys{z:List (SK×V)}{c:List (SK×Value)}(q:CN f d h z c):z.map (·.1)=c.map (·.1):=CN.ind (u:=λz c=>z.map (·.1)=c.map (·.1)) rfl (λk x z v c a i b=>AE (k::·) b) q
open Classical in
def XG{z:List (CV×V)}:∀{u:List (CV×Addr×Value)},u.length=z.length->(∀i(n:i<u.length)(A:i<z.length),u[i].1=z[i].1/\VR f d h z[i].2 u[i].2.2)->∀k,Ji f d h (BK z k) ((atKey u k).map (·.2)):=by induction z with
 |nil=>showλ{u}j _ k=>by cases u with|nil=>show .inl ⟨rfl,rfl⟩|cons=>cases j
 |cons a z r=>showλ{u}j p k=>by cases u with|nil=>cases j|cons x u=>
   have o:=p 0 (Nat.zero_lt_succ _) (Nat.zero_lt_succ _);have n:x.1=a.1:=o.1;by_cases b:a.1=k;·have l:atKey (x::u) k=some x.2:=Lm (BC (n.trans b));show .inr ⟨a.2,x.2.2,Lm (BC b),AE _ l,o.2⟩
   ·have c:=r (Ew j) (λi t v=>p _ (Ex t) (Ex v)) k;have q:BK (a::z) k=BK z k:=Ll (Bz b);have l:atKey (x::u) k=atKey u k:=Ll (Bz λw=>b (n.symm.trans w));show q▸l▸c
def IT(F:Facts C)(I:Inv C f d s)(b:f.has n):((d.loc n).a==sysModules)=false:=by have:=(I.fresh n b).1;show I9.mpr λa=>?_;rw[a]at this;have q:=F.jJ;rw[this]at q;show AX q
def DK(j:f.objs n=some o):f.has n:=by unfold St.has;show J j ?_;rfl
noncomputable def EP:H5->CmpOp|.eq=>.Eq|.ne=>.NotEq|.lt=>.Lt|.le=>.LtE|.gt=>.Gt|.ge=>.GtE|.isin=>.In|.FE=>.NotIn
def K9(C:Cx)(e:Around)(s:Shared)(B v:Value)(b:Bool):Prop:=∀Q:Value->Shared->Prop,((∀g,Dg s g->Q (.bool b) g)->wpAny (model C.prog C.w) e (compareOp .In B v) Q E0 s)/\((∀g,Dg s g->Q (.bool !b) g)->wpAny (model C.prog C.w) e (compareOp .NotIn B v) Q E0 s)
open Classical in
def Ts(F:Facts C)(AC:e.units+40<cLine)(I:Inv C f d s)(r:VR f d s.heap x B)(L:VR f d s.heap A v)(j:BZ.J8 f x A=some b):K9 C e s B v b:=by
 have H:_+20<_:=Ai (EJ (Ay _ _) _) AC;have O:∀{w}{a E},Dl x w=_->s.heap.IsList a E->_->K9 C e s B _ b:=λj o p=>(Vo H j r p).elim λt z=>λQ=>⟨λc=>SeqAt.in_listAt t o (λA q=>z.1 A (by simpa using q)) (Mine.AU Array.any_toList (J z.2 (c _ (.refl s)))),λc=>SeqAt.notIn_listAt t o (λA q=>z.1 A (by simpa using q)) (Mine.AU Array.any_toList (J z.2 (c _ (.refl s))))⟩
 cases A with|tup w=>show L.t rfl (G:=λv=>K9 C e s B v b) λa E o i p i i=>(Vo H j r p).elim λt z=>λQ=>⟨λc=>SeqAt.in_tupleAt t o (λA q=>z.1 A (by simpa using q)) (Mine.AU Array.any_toList (J z.2 (c _ (.refl s)))),λc=>SeqAt.notIn_tupleAt t o (λA q=>z.1 A (by simpa using q)) (Mine.AU Array.any_toList (J z.2 (c _ (.refl s))))⟩|lst w=>show L.l rfl (G:=λv=>K9 C e s B v b) λa E o i p i=>O j o p|ref n=>
  show L.r rfl (G:=λv=>K9 C e s B v b) λi=>JS j (λw l j=>I.list l λE o p i=>O j o p) (λg Y l j=>?_) λg l j=>?_
  ·show BG (I.objs n _ l) λM i i=>?_;rcases M with⟨y,u,G⟩;show oM j λk D=>(G.get k).some▸λQ=>⟨λc=>?_,λc=>?_⟩;·show wpAny_in_of (Kh r D) (IT F I (DK l)) u.dictOf.mapOf (c _ ⟨_,rfl⟩)
   ·show wpAny_notIn_of (Kh r D) (IT F I (DK l)) u.dictOf.mapOf (c _ ⟨_,rfl⟩)
  ·show BG (I.objs n _ l) λM i i=>?_;rcases M with⟨w,u,_,h,G⟩;show oM j λk D=>AJ (Ob r D) λa m N=>?_;clear r;obtain rfl:=m;have T:=(Ai (Nat.succ_le_of_lt (Nat.add_lt_add_left (Ay _ _) _)) H:_+1+12<_);show(XG h G k).some.trans Option.isSome_map▸λQ=>⟨λc=>?_,λc=>?_⟩;·show wpAny_in_heap T N (IT F I (DK l)) u (c _ ⟨_,rfl⟩)
   ·show wpAny_notIn_heap T N (IT F I (DK l)) u (c _ ⟨_,rfl⟩)|_=>show AS j
def Hm(n:VR f d h x B)(o:VR f d h A v){w}{r:p}(j:ints2 x A w=some r){G:_->_->Prop}(k:∀a t c b,w a c=some r->G (.int a t) (.int c b)):G B v:=oB j λa i j=>oB j λc l j=>n.i i (G:=λB=>G B v) λt=>o.i l λb=>k a t c b j
def J7(F:Facts C)(p:e.units+40<cLine)(I:Inv C f d s)(k:VR f d s.heap x B)(l:VR f d s.heap A v)(j:BZ f c x A=some b)(o:∀g,Dg s g->Q (.bool b) g):wpAny (model C.prog C.w) e (compareOp (EP c) B v) Q E0 s:=by have i:=o _ (.refl s);cases c with|eq=>show(QE 7 e _ _ _ _ _ (Ai (EJ (Ay _ _) _) p) j (k.flat I) (l.flat I)).rc _ _ _ _ i|ne=>show oM j (G:=λb=>Q _ s->_) (λn q i=>(QE 7 e _ _ _ _ _ (Ai (EJ (Ay _ _) _) p) q (k.flat I) (l.flat I)).ne _ _ _ _ i) i|isin=>show(Ts F p I k l j Q).1 o|FE=>show oM j (G:=λb=>(∀g,Dg s g->Q (.bool b) g)->_) (λn q o=>(Ts F p I k l q Q).2 o) o|lt=>show Hm k l j (G:=λB v=>wpAny _ e _ Q E0 s) λa t n r j=>PyProof.Rows.lt_int (AP j▸i)|le=>show Hm k l j (G:=λB v=>wpAny _ e _ Q E0 s) λa t n r j=>P.le_int (AP j▸i)|gt=>show Hm k l j (G:=λB v=>wpAny _ e _ Q E0 s) λa t n r j=>PyProof.Rows.gt_int (AP j▸i)|ge=>show Hm k l j (G:=λB v=>wpAny _ e _ Q E0 s) λa t n r j=>P.ge_int (AP j▸i)
end
end
def Ab(C:Cx)(f:St)(d:Mu)(h:Heap)(V:V)(c:St)(v:Value)(a:Shared):Prop:=∃b,Inv C c b a/\Step BO f d h c b a.heap/\VR c b a.heap V v
section
mutual
open A
variable{f w:St}{d Y:Mu}{s g:Shared}{C:Cx}{e:Around}{h p:Heap}
def Ab.same(I:Inv C f d s)(q:Dg s g){V:V}(b:VR f d s.heap V v):Ab C f d s.heap V f v g:=by
 show⟨d,I.same q,?_,?_⟩;·show Ac q λc a=>?_;(try clear q);obtain rfl:=a;show Step.refl _ _ _ I.lt
 ·show Ac q λc a=>?_;(try clear q);obtain rfl:=a;show b
def Ab.keeps(I:Inv C f d s)(a:∀b o,s.heap.get? b=some o->p.get? b=some o){V:V}(c:VR f d p V v):Ab C f d s.heap V f v {s with heap:=p,toks:=tk,drawn:=dr}:=⟨d,I.keeps a,Step.keeps I.lt a,c⟩
def VR.keeps(j:∀b o,h.get? b=some o->p.get? b=some o){V:V}(m:VR f d h V v):VR f d p V v:=m.mono (λa o x n k u c=>⟨j a o k,c⟩) (Ag _) λq q=>rfl
def AM.keeps(j:∀b o,h.get? b=some o->p.get? b=some o){V}(l:AM f d h V v):AM f d p V v:=l.mono (λa o r n k q i=>⟨j a o k,i⟩) (Ag _) λm m=>rfl
def Ab.tup(I:Inv C f d s)(i:AM f d s.heap u m.toList)(c:u.length<=lim):Ab C f d s.heap (.tup u) f (.ref s.heap.objs.size) {s with heap:=s.heap.push {cls:=.type "tuple",data:=.seq m},toks:=tk,drawn:=dr}:=Ab.keeps I (λb b a=>A7 _ a) (.tup ⟨_,B4 _ rfl,rfl,_,rfl⟩ (I.Ff (BV _)) (i.keeps λb b a=>A7 _ a) c ⟨_,B4 _ rfl,rfl⟩)
def Ab.lst(I:Inv C f d s)(i:AM f d s.heap u m.toList)(c:u.length<=lim):Ab C f d s.heap (.lst u) f (.ref s.heap.objs.size) {s with heap:=s.heap.push {cls:=.type "list",data:=.seq m},toks:=tk,drawn:=dr}:=Ab.keeps I (λb b a=>A7 _ a) (.lst ⟨_,B4 _ rfl,rfl,_,rfl⟩ (I.Ff (BV _)) (i.keeps λb b a=>A7 _ a) c)
def E':lim<=sizeLine:=by decide
noncomputable def Pj:K2->Operator|.add=>.Add|.sub=>.Sub|.mul=>.Mult|.fdiv=>.FloorDiv|.mod=>.Mod
end
section
mutual
open A
variable{u ys:List Mine.V}{a b:Addr}{m i:Array Value}{Q:Value->Shared->Prop}
def add_lists(I:Inv C f d s)(A:s.heap.IsList a m)(c:AM f d s.heap u m.toList)(B:s.heap.IsList b i)(j:AM f d s.heap ys i.toList)(t:u.length+ys.length<lim):wpAny (model C.prog C.w) e (binaryOp .Add (.ref a) (.ref b)) (λr g=>Ab C f d s.heap (.lst (u++ys)) f r g) E0 s:=by obtain⟨⟨H,y,M,E⟩,v,k,n,o⟩:=A;obtain⟨⟨L,z,data2,G⟩,x,l,D,q⟩:=B;simp only at k o l q;subst k o l q;have:=c.size;have:=j.size;have:=E';show concat_meets ⟨_,v,rfl⟩ ⟨_,x,rfl⟩ noFill_list_add seq_list_add PySem.F.slot_list_add PySem.F.entry_list_add (PySem.F.args_list_add_2 _ _) (list_addW a b _ i n D y z E G (AQ (Ft (AY c.size) (AY j.size)) (AQ (BH t) E'))) ⟨v,x,Ab.lst I (J Array.toList_append (c.append j)) (J Bp (BH t))⟩
def Yh(I:Inv C f d s)(q:VR f d s.heap (.tup u) (.ref a))(N:VR f d s.heap (.tup ys) (.ref b))(L:IsTup s.heap a m)(v:AM f d s.heap u m.toList)(M:IsTup s.heap b i)(x:AM f d s.heap ys i.toList)(H:u.length+ys.length<lim):wpAny (model C.prog C.w) e (binaryOp .Add (.ref a) (.ref b)) (λr g=>Ab C f d s.heap (.tup (u++ys)) f r g) E0 s:=by
 obtain⟨⟨O,l,h,z⟩,c,B,n,E⟩:=L;obtain⟨⟨T,o,data2,A⟩,j,D,y,G⟩:=M;simp only at B E D G;subst B E D G;have:=E';by_cases k:m.isEmpty=true;·show concat_meets ⟨_,c,rfl⟩ ⟨_,j,rfl⟩ noFill_tuple_add seq_tuple_add PySem.F.slot_tuple_add PySem.F.entry_tuple_add (PySem.F.args_tuple_add_2 _ _) (tuple_addW0 _ _ _ _ n y l o z A k) ⟨c,j,LB.mp ((Lx v).symm.trans k)▸Ab.same I (.refl s) N⟩
 ·by_cases t:i.isEmpty=true;·show concat_meets ⟨_,c,rfl⟩ ⟨_,j,rfl⟩ noFill_tuple_add seq_tuple_add PySem.F.slot_tuple_add PySem.F.entry_tuple_add (PySem.F.args_tuple_add_2 _ _) (tuple_addW1 _ _ _ _ n y l o z A k t) ⟨c,j,LB.mp ((Lx x).symm.trans t)▸(Bv u).symm▸Ab.same I (.refl s) q⟩
  ·show concat_meets ⟨_,c,rfl⟩ ⟨_,j,rfl⟩ noFill_tuple_add seq_tuple_add PySem.F.slot_tuple_add PySem.F.entry_tuple_add (PySem.F.args_tuple_add_2 _ _) (tuple_addW2 _ _ _ _ n y l o z A k t (AQ (AQ (Ft (AY v.size) (AY x.size)) (BH H)) this)) ⟨c,j,Ab.tup I (J Array.toList_append (v.append x)) (J Bp (BH H))⟩
def AM.rep(r:AM f d h u m.toList):∀k:_,AM f d h (List.replicate k u).flatten (List.foldl (λo q=>o++q) #[] (List.replicate k m)).toList:=by intro k;rw[(by intro k;induction k with|zero=>intro j;simp|succ k l=>intro j;(show J List.replicate_succ ?_;show J List.foldl_cons ?_;rewrite[l];show J List.replicate_succ ?_;show J List.flatten_cons ?_;show J Array.toList_append ?_;rewrite[DN];rfl):∀(k:Nat)(j:Array Value),(List.foldl (λo q=>o++q) j (List.replicate k m)).toList=j.toList++(List.replicate k m.toList).flatten)];induction k with|zero=>show .nil|succ k l=>show r.append l
def mul_list(I:Inv C f d s){k:Int}(z:s.heap.IsList a m)(o:AM f d s.heap u m.toList)(j:0<=k/\k<lim/\u.length*k.toNat<lim):wpAny (model C.prog C.w) e (binaryOp .Mult (.ref a) (.int k B)) (λr g=>Ab C f d s.heap (.lst (List.replicate k.toNat u).flatten) f r g) E0 s:=by
 have A:lim=1000000:=rfl;obtain⟨⟨D,q,E,y⟩,c,t,n,v⟩:=z;simp only at t v;subst t v;have x:m.size*_<_:=J o.size j.2.2;show wpAny_binaryOp_repeat_ref (by decide) ⟨_,c,rfl⟩ (λg=>typeIs_int g k B) noFill_list_mul PySem.F.fills_int_mul PySem.F.slot_int_rmul repeat_list PySem.F.slot_int_index.lookup (call_meets PySem.F.slot_int_rmul (typeIs_int s k B) PySem.F.entry_int_rmul (PySem.F.args_int_rmul_2 _ _) (lm_int_rmul_list_any k B a _ n q y) ⟨c,rfl,⟨_,c,rfl⟩,call_meets PySem.F.slot_list_mul ⟨_,c,rfl⟩ PySem.F.entry_list_mul (PySem.F.args_list_mul_2 _ _) (lm_list_mul_any a _ n q y k B (by simp[Builtin.List.listFitsIndex];show⟨Aa j.1 (by simp+arith),Aa j.2.1 (Aa (IM (AY A)) (by simp+arith))⟩) (LH (AQ (BH x) (Ay _ _))) (by simp[Builtin.List.listTooLong,sizeLine];show AQ (BH x) (Ay _ _))) ⟨c,?_⟩⟩);show Ab.lst I ?_ ?_
 ·by_cases l:m.isEmpty=true;·show J (AG l) (J (LB.mp ((Lx o).symm.trans l)) (J List.flatten_replicate_nil .nil))
  ·show J (AF l) ?_;show o.rep _
 ·simp only[List.length_flatten,List.map_replicate,List.sum_replicate_nat];rw[Nat.mul_comm];show BH j.2.2 
end
end
open Classical in
def ZQ(I:Inv C f d s)(m:VR f d s.heap x B)(y:VR f d s.heap A v)(j:Cc f c x A=some E):wpAny (model C.prog C.w) e (binaryOp (Pj c) B v) (λr g=>Ab C f d s.heap E f r g) E0 s:=by have one:∀{i:Int},_=some E->Ab C f d s.heap E f (.int i s.toks) {s with toks:=s.toks+1}:=λj=>AP j▸Ab.same I ⟨_,rfl⟩ (.int _ _);have two:∀{D}{a z},PM f D A=some E->s.heap.IsList a z->_:=λ{D a z}j o u=>oB j λY H j=>y.EE I H (G:=λv=>wpAny _ e _ _ E0 s) λb p N O l=>AP (oT j).2▸add_lists I o u N O (oT j).1;cases c with
 |sub=>show Hm m y j (G:=λB v=>wpAny _ e _ _ E0 s) λa t Q G j=>PyProof.Rows.sub_int (one j)|fdiv=>show Hm m y j (G:=λB v=>wpAny _ e _ _ E0 s) λa t Q G j=>oI j (λl=>nS) λL j=>floordiv_int (λq=>L (.inl q)) (one j) (.inl (PyProof.noPylong_small (Nat.lt_of_not_le λq=>L (.inr q))))|mod=>show Hm m y j (G:=λB v=>wpAny _ e _ _ E0 s) λa t Q G j=>oI j (λl=>nS) λL j=>mod_int' L (one j)|add=>cases x with|int a=>show oM j (G:=λE=>_=_->_) (λb M j=>m.i rfl (G:=λB=>wpAny _ e (binaryOp .Add B v) _ E0 s) λt=>y.i M (G:=λv=>wpAny _ e _ _ E0 s) λG=>PyProof.Rows.add_int (one j)) rfl|tup D=>show oB j λY H j=>AP (oT j).2▸m.t rfl (G:=λB=>_->_->wpAny _ e (binaryOp .Add B v) _ E0 s) (λa z o l u l l q=>y.t H (G:=λv=>_->wpAny _ e _ _ E0 s) λb p N l O l l w=>Yh I q (tup_is H▸w) o u N O (oT j).1) m y|lst D=>show m.l rfl (G:=λB=>wpAny _ e (binaryOp .Add B v) _ E0 s) λa z o l u l=>two j o u|ref n=>show oB j λD h j=>m.r rfl (G:=λB=>wpAny _ e (binaryOp .Add B v) _ E0 s) λl=>I.list (Ho h) λz o u l=>two j o u|_=>show AS j
 |mul=>cases x with|int a=>show oB j λb M j=>m.i rfl (G:=λB=>wpAny _ e (binaryOp .Mult B v) _ E0 s) λt=>y.i M (G:=λv=>wpAny _ e _ _ E0 s) λG=>P.mul_int (one (oT j).2) (oT j).1|lst D=>show oB j λk T j=>m.l rfl (G:=λB=>wpAny _ e (binaryOp .Mult B v) _ E0 s) λa z o l u l=>y.i T (G:=λv=>wpAny _ e _ _ E0 s) λG=>AP (oT j).2▸mul_list I o u (oT j).1|_=>show AS j
end
section
mutual
open A
variable{f e:St}{d Y:Mu}{s a:Shared}{C:Cx}{A:Around}{h b:Heap}
def gk(n:Nat)(i:Int):place n i=seqIndex? i n:=by
 delta place seqIndex?;by_cases g:0<=i
 ·show J (AG g)<|J (AF (Int.not_lt.mpr g):(if i<0 then i+n else i)=i)<|iG (G:=(·=_)) (λc=>(AG ?_).symm) λc=>(AF ?_).symm;·show(Ct _ _).mpr ⟨BC g,BC c⟩
  ·showλh=>c (A9 ((Ct _ _).mp h).2)
 ·show J (AF g) ?_;have h:=Nr g;show J (AG h:(if i<0 then i+n else i)=i+n)<|iG (G:=(·=_)) (λc=>(AG ?_).symm) λc=>(AF ?_).symm;·show(Ct _ _).mpr ⟨BC (Aa c (by simp+arith)),BC (Aa h (by simp+arith))⟩
  ·showλh=>c (Aa (A9 ((Ct _ _).mp h).1) (by simp+arith))
def place_lt(j:place n i=some l):l<n/\-n<=i/\i<n:=oI j (λc j=>AP (oT j).2▸⟨(Int.toNat_lt c).mpr (oT j).1,BE (Int.neg_nonpos_of_nonneg (Co n)) c,(oT j).1⟩) λc j=>have k:=Int.not_le.mp c;have g:=(oT j).1;AP (oT j).2▸⟨Ie (Aa g (by simp+arith)) (Aa k (by simp+arith)),g,Fo k (Co n)⟩
def PY{m:Array _}(i:AM f d h u m.toList){c:Nat}(j:u[c]?=some E):∃v,m[c]?=some v/\VR f d h E v:=by show Ac (Jt.mp j) λg n=>?_;clear j;obtain rfl:=n;have l:=i.size;have k:=AZ g (AY l.symm);show⟨_,Io k,by show i.get c g (by assumption)⟩
def listItem{l:Addr}{m:Array Value}{i:Int}{t:Tok}{j:Nat}{v:Value}(k:s.heap.IsList l m)(o:(m.size:Int)<2^63)(q:place m.size i=some j)(p:m[j]?=some v){Q:Value->Shared->Prop}(n:Q v s):wpAny (model C.prog C.w) A (getItem (.ref l) (.int i t)) Q E0 s:=oI q (λg c=>wpAny_getItem_list k g (H6 (oT c).1 o) (AP (oT c).2▸p) n) λg c=>wpAny_getItem_list_neg k (Nr g) (oT c).1 (BE (Jq (D6 o)) (oT c).1) (AP (oT c).2▸p) n
def Jo(C:Cx)(A:Around)(f:St)(d:Mu)(s:Shared)(B v:Value)(E:V):Prop:=∃T id,s.TypeIs B T/\typeLookup (.type T) "__getitem__"=pure (some (.builtin id))/\wpAny (model C.prog C.w) A (getItem B v) (λr a=>Dg s a/\VR f d s.heap E r) E0 s
open Classical in
def d'(F:Facts C)(AC:A.units+40<cLine)(I:Inv C f d s)(T:VR f d s.heap x B)(w:VR f d s.heap k v)(j:DT f x k=some E):Jo C A f d s B v E:=by
 have h:∀{y}{z H},itemAt y k=some E->s.heap.IsList z H->_:=λj g c l=>oB j λi L j=>oB j λS G j=>(PY c j).elim λr u=>w.i L (G:=λv=>Jo C A f d s _ v E) λt=>⟨_,_,g.typeIs,PySem.F.slot_list_getitem.lookup,listItem g (c.fit l).2 (c.size▸G) u.1 ⟨.refl s,u.2⟩⟩;cases x with|tup y=>show T.t rfl (G:=λB=>Jo C A f d s B v E) λz H g m c l m=>oB j λi L j=>oB j λS G j=>(PY c j).elim λr u=>w.i L (G:=λv=>Jo C A f d s _ v E) λt=>have b:=c.fit l;have O:=c.size;have e:=place_lt G;⟨_,_,⟨_,g.choose_spec.1,g.choose_spec.2.1⟩,PySem.F.slot_tuple_getitem.lookup,getItem_tuple g (BE (Jq (D6 b.2)) (BE (Jq (Jr.mpr (AY O.symm))) e.2.1)) (H6 e.2.2 (HQ (Jr.mpr (AY O.symm)) b.2)) (by(rewrite[<-gk];show J O ?_);show G) u.1 ⟨.refl s,u.2⟩⟩|lst y=>show T.l rfl (G:=λB=>Jo C A f d s B v E) λz H g m c l=>h j g c l|ref n=>
  show T.r rfl (G:=λB=>Jo C A f d s B v E) λm=>JS j (λy o j=>I.list o λH g c l=>h j g c l) (λY At o j=>oB j λQ M j=>?_) λY o j=>oB j λQ M j=>?_;·show BG (I.objs n _ o) λa m m=>?_;rcases a with⟨X,q,N⟩;show AJ ((N.get Q).val j) λp D h3=>⟨_,_,q.dictOf.typeIs,PySem.F.slot_dict_getitem.lookup,wpAny_getItem_of (Kh w M) q.dictOf.mapOf D ⟨⟨_,rfl⟩,h3⟩⟩
  ·show BG (I.objs n _ o) λa m m=>?_;rcases a with⟨y,q,_,R,N⟩;show AJ (Ob w M) λz V P=>?_;clear w;obtain rfl:=V;show AJ ((XG R N Q).val j) λp D h3=>AJ (By.mp D) λZ K W=>?_;clear D;obtain rfl:=W;show⟨_,_,q.typeIs,PySem.F.slot_dict_getitem.lookup,wpAny_getItem_heap (Ai (Nat.succ_le_of_lt (Nat.add_lt_add_left (Ay _ _) _)) AC:_+1+12<_) P q K ⟨⟨_,rfl⟩,h3⟩⟩|_=>show AS j
def AM.pick{m:Array _}(k:AM f d h u m.toList):∀l:List Nat,AM f d h (l.filterMap λi=>u[i]?) (l.filterMap (m[·]?)):=by intro l;have j:=k.size;induction l with|nil=>show .nil|cons i l o=>
  by_cases g:i<u.length;·have p:u[i]?=some u[i]:=Cz g;show J (List.filterMap_cons_some p) (J (List.filterMap_cons_some (Io (AZ g (AY j.symm)))) ?_);have q:=k.get i g (by simp;show(AZ g (AY j.symm)));show .cons q o
  ·skip;have r:m[i]?=none:=O0 (AQ (AY j) (DP g));show J (List.filterMap_cons_none (H8 (DP g))) ?_;show J (List.filterMap_cons_none r) o
def iX(g:AM f d h u m.toList)(lo c):AM f d h (MQ u lo c) (slicePick m lo c none).toList:=by delta MQ slicePick;show J g.size (g.pick _)
def d4(v)(n):kms_hi v n<=n:=by cases v with|none=>show Ag n|some y=>show iG (G:=λk=>k<=n) (λc=>Nat.sub_le _ _) λc=>Nat.min_le_right _ _
def iV(u)(lo c):(MQ u lo c).length<=u.length:=AQ (List.length_filterMap_le _ _) (sliceRange_length_le _ _ _ _ (λi=>⟨by rw[kms_bounds];show Co _,by rw[kms_bounds];show Jr.mpr (d4 c _)⟩) λg=>absurd Int.one_pos g)
end
end
mutual
open A
structure ER(C:Cx)(env:PySem.Env)(ρ:Env)(σ:St)(μ:Mu)(h:Heap):Prop where
 kind:env.scope.kind=.function
 glob:env.globals=mainGlobals
 blt:env.builtins=builtinsNs
 loc:∃m,h.Ns env.locals m/\∀i V,ρ i=some V->env.kindOf (C.nm i)=some .local->∃v,m (C.nm i)=some v/\VR σ μ h V v
 FT:∀i V,ρ i=some V->(env.kindOf (C.nm i)=some .cell\/env.kindOf (C.nm i)=some .free)->∃c v,env.cells.lookup (C.nm i)=some c/\h.IsCell c (some v)/\VR σ μ h V v
 cells:∀x c,(x,c)∈env.cells->(∃v,h.IsCell c v)/\Apart σ μ c/\C.h0.get? c=none/\c≠env.locals
 one:env.cells.Pairwise λx y=>x.2≠y.2
 has:∀x,env.kindOf x=some .cell->(env.cells.lookup x).isSome=true
 apart:Apart σ μ env.locals
 fresh:C.h0.get? env.locals=none
structure E1(A:Around)(n:Nat):Prop where
 hd:A.handled=none
 depth:A.depth+3*n+20<recursionLimit
 units:A.units+40*n+400<cLine
 frames:∃l,A.frames=some l
end
section
mutual
open A
variable{f p L:St}{d Y O:Mu}{s H:Shared}{C:Cx}{B:Around}{h I N:Heap}{y:PySem.Env}{e:Env}
def ER.step(R:ER C y e f d h)(S:Step BO f d h p Y I):ER C y e p Y I where
 kind:=R.kind;glob:=R.glob;blt:=R.blt;loc:=by show AJ R.loc λm j q=>?_;rcases j with⟨o,u,t,a,r⟩;show⟨m,⟨o,u,t,S.kept _ o id a R.apart,r⟩,λi V b k=>(q i V b k).imp λv z=>⟨z.1,z.2.Cv S⟩⟩
 FT:=λi V b k=>by show Dc (R.FT i V b k) λc v n G q=>?_;rcases G with⟨o,a,g⟩;show⟨c,v,n,⟨o,S.kept _ o id a (R.cells _ _ (mem_of_lookup n)).2.1,g⟩,q.Cv S⟩
 cells:=λx c A=>by show CW (R.cells x c A) λE l w D=>?_;rcases E with⟨v,o,a,g⟩;show⟨⟨v,o,S.kept _ o id a l,g⟩,l.step S (J a rfl) id,w,D⟩
 one:=R.one;has:=R.has;apart:=by show AJ R.loc λm j q=>?_;rcases j with⟨o,u,t,a,r⟩;show R.apart.step S (J a rfl) id
 fresh:=R.fresh
def Ab.trans(S:Step BO f d h p Y I)(P:Ab C p Y I W L w H):Ab C f d h W L w H:=B3 P λc a b q=>⟨c,a,S.trans b,q⟩
def Sm(C:Cx)(B:Around)(y:PySem.Env){g i:Type}(c:Sem g)(M:St->Mu->Heap->i->g->Prop)(w:Env->St->Option (i×St)):Prop:=∀e f b p,w e f=some (b,p)->∀d s,Inv C f d s->ER C y e f d s.heap->wpAny (model C.prog C.w) B c (λa H=>∃Y,Inv C p Y H/\Step BO f d s.heap p Y H.heap/\M p Y H.heap b a) E0 s
abbrev Au(C:Cx)(B:Around)(y:PySem.Env)(j:Expr)(w:Env->St->Option (V×St)):Prop:=Sm C B y (eval j y) VR w
abbrev Fj(C:Cx)(B:Around)(y:PySem.Env)(z:List Expr)(w:Env->St->Option (List V×St)):Prop:=∀a,Sm C B y (spliced (backTo a (starEach z y))) AM w
abbrev O2{c:Type}(_:St)(_:Mu)(_:Heap)(b a:c):Prop:=a=b
abbrev Dh(C:Cx)(B:Around)(y:PySem.Env)(j:Expr)(w:Env->St->Option (Bool×St)):Prop:=Sm C B y (isTrue j y (eval j y)) O2 w
end
section
mutual
open A
variable{i g j:Type}{c:Sem i}{M:St->Mu->Heap->g->i->Prop}{w:Env->St->Option (g×St)}{Q:i->Shared->Prop}{r:j}{T:Value->Shared->Prop}
def Sm.t(v:Sm C B y c M w)(q:w e f=some (b,p))(u:Inv C f d s)(R:ER C y e f d s.heap)(k:∀a n o,Inv C p o n->Step BO f d s.heap p o n.heap->M p o n.heap b a->Q a n):wpAny (model C.prog C.w) B c Q T s:=BW (v e f b p q d s u R) (λa n z=>z.elim λo z=>k a n o z.1 z.2.1 z.2.2) λx x q=>q.elim
def Sm.b(x:Sm C B y c M w)(q:(w e f).bind F=some r)(v:Inv C f d s)(R:ER C y e f d s.heap)(k:∀b u a n o,F (b,u)=some r->Inv C u o n->Step BO f d s.heap u o n.heap->M u o n.heap b a->Q a n):wpAny (model C.prog C.w) B c Q T s:=(Fu.mp q).elim λA z=>x.t z.1 v R λa n o=>k _ _ a n o z.2
def Sm.m(x:Sm C B y c M w)(q:(w e f).map F=some r)(v:Inv C f d s)(R:ER C y e f d s.heap)(k:∀b u a n o,F (b,u)=r->Inv C u o n->Step BO f d s.heap u o n.heap->M u o n.heap b a->Q a n):wpAny (model C.prog C.w) B c Q T s:=(By.mp q).elim λA z=>x.t z.1 v R λa n o=>k _ _ a n o z.2
def Sm.l(x:Sm C B y c M w){b:g}(q:w e f=some (b,p))(k:Inv C f d s)(R:ER C y e f d s.heap)(o:Step BO Bg Bn v f d s.heap):wpAny (model C.prog C.w) B c (λa H=>∃Y,Inv C p Y H/\Step BO Bg Bn v p Y H.heap/\M p Y H.heap b a) E0 s:=x.t q k R λA A D n u z=>⟨D,n,o.trans u,z⟩
end
end
mutual
open A
def oV{i c:Type}{o}{g:i->c}{b:c}(q:(o.map λv=>(g v,j))=some (b,p)){G:c->St->Prop}(k:∀E,o=some E->G (g E) j):G b p:=(By.mp q).elim λE a=>(DQ a.2).1▸(DQ a.2).2▸k E a.1
def oP{c:Type}{b a:c}(q:some (b,g)=some (a,p)){G:c->St->Prop}(k:G b g):G a p:=(DQ (AP q)).1▸(DQ (AP q)).2▸k
def oL{i c:Type}{o}{g:i->c}{b:c}(q:(o.map λ(v,f)=>(g v,f))=some (b,p)){G:Prop}(k:∀E,o=some (E,p)->g E=b->G):G:=(By.mp q).elim λE a=>k _ (a.1.trans (AE (λt=>some (_,t)) (DQ a.2).2)) (DQ a.2).1
def cV:Au C B y (.Constant .none k g) λa f=>some (.none,f):=λa a V p c a s b a=>Md (oP c (G:=λV p=>Ab C _ _ _ V p _ _) (Ab.same b (.refl s) .none))
def cB:Au C B y (.Constant (.bool b) k i) λa f=>some (.bool b,f):=λa a V p g a s c a=>wpAny_Constant_bool (oP g (G:=λV p=>Ab C _ _ _ V p _ _) (Ab.same c (.refl s) (.bool b)))
def cK:Au C B y (.Constant (.int i) k g) λa f=>some (.int i,f):=λa a V p c a s b a=>wpAny_Constant_int (oP c (G:=λV p=>Ab C _ _ _ V p _ _) (Ab.same b ⟨_,rfl⟩ (.int _ _)))
def cb:Au C B y (.Constant (.str x) k g) λa f=>some (.str x,f):=λa a V p c a s b a=>wpAny_Constant_str (oP c (G:=λV p=>Ab C _ _ _ V p _ _) (Ab.same b ⟨_,rfl⟩ (.str _ _)))
def e2{V:V}(R:ER C y e f d s.heap)(j:e i=some V)(a:y.kindOf (C.nm i)=some .local\/y.kindOf (C.nm i)=some .cell\/y.kindOf (C.nm i)=some .free)(n:(C.nm i=="__classdict__")=false)(l:∀v,VR f d s.heap V v->Q v s):wpAny (model C.prog C.w) B (loadName y (C.nm i)) Q E0 s:=by
 rcases a with a|a|a;·show AJ R.loc λm o q=>AJ (q i V j a) λv r b=>wpAny_loadName_local R.kind a o r (l v b)
 ·show Dc (R.FT i V j (.inl a)) λc v g k b=>wpAny_loadName_cell R.kind a g k (l v b)
 ·show Dc (R.FT i V j (.inr a)) λc v g k b=>wpAny_loadName_free R.kind a g k (l v b) n
def cm(m:x=C.nm i)(k:y.kindOf x=some .local\/y.kindOf x=some .cell\/y.kindOf x=some .free)(g:(x=="__classdict__")=false)(j:(x=="__debug__")=false):Au C B y (.Name x n) λe f=>(e i).map λv=>(v,f):=by subst m;showλe f V p b d s a R=>oV b (G:=λV p=>wpAny _ _ _ (λv H=>_) E0 s) λW c=>wpAny_Name (e2 R c k g λv l=>Ab.same a (.refl s) l) j
def small(q:AM f d h u D)(b:u.length=n)(a:n<=1000):D.length<=sizeLine/\u.length<=lim:=by show⟨AQ (AY (q.length.symm.trans b)) (AQ a (by decide)),AQ (AY b) (AQ a (by decide))⟩
def cj(o:Fj C B y z w)(g:z.length<=1000)(c:∀e f a p,w e f=some (a,p)->a.length=z.length):Au C B y (.Tuple z k q) λe f=>(w e f).map λ(D,f)=>(.tup D,f):=λe f V p n d s j R=>oL n λa b ev=>ev▸wpAny_Tuple_spliced ((o _).t b j R λD r t l m i=>⟨(small i (c _ _ _ _ b) g).1,Ab.trans m (Ab.tup l (by assumption) (small i (c _ _ _ _ b) g).2)⟩)
def cO(n:Fj C B y z w)(g:z.length<=1000)(c:∀e f a p,w e f=some (a,p)->a.length=z.length):Au C B y (.List z o) λe f=>(w e f).map λ(D,f)=>(.lst D,f):=λe f V p m d s j R=>oL m λa b ev=>ev▸wpAny_List_spliced ((n _).t b j R λD q r k l i=>⟨(small i (c _ _ _ _ b) g).1,Ab.trans l (Ab.lst k (by assumption) (small i (c _ _ _ _ b) g).2)⟩)
def Ab.Dm(a:Inv C f d s)(l:AM f d s.heap u D)(k:u.length<=lim):Ab C f d s.heap (.ref f.next) (f.new (.list u)) (.ref s.heap.objs.size) {s with heap:=s.heap.push {cls:=.type "list",data:=.seq D.toArray},toks:=tk,drawn:=dr}:=by
 have c:∀b o,_->(s.heap.push {cls:=.type "list",data:=.seq D.toArray}).get? b=some o:=λm m j=>A7 _ j;have g:(s.heap.push {cls:=.type "list",data:=.seq D.toArray}).get? _=_:=B4 _ rfl;have i:=a.alloc (o:=.list u) (l:=⟨s.heap.objs.size,s.heap.objs.size,0⟩) c (BV _) (BV _) (J g rfl) (J g rfl) (by
    show⟨⟨D.toArray,?_,l.alloc c a.lt (BV _) (BV _)⟩,k,?_⟩;·rw[Mu.Bt];show⟨_,g⟩
    ·rw[Mu.Bt]) (tk:=tk) (dr:=dr);show⟨_,i,Step.alloc a.lt c (BV _) (BV _),?_⟩;have:=VR.ref (σ:=f.new (.list u)) (μ:=d.new f.next ⟨s.heap.objs.size,s.heap.objs.size,0⟩) (h:=s.heap.push {cls:=.type "list",data:=.seq D.toArray}) _ (Cq _);rw[Mu.Bt]at this;show this
def cT(n:Fj C B y z w)(i:z.length<=1000)(g:∀e f c p,w e f=some (c,p)->c.length=z.length):Au C B y (.List z q) λe f=>(w e f).map λ(D,f)=>(.ref f.next,f.new (.list D)):=λe f V p m d s j R=>(By.mp m).elim λo a=>wpAny_List_spliced ((n _).t a.1 j R λD r t k l b=>⟨(small b (g _ _ _ _ a.1) i).1,oP (AE _ a.2) (G:=λV p=>Ab C f d _ V p _ _) (Ab.trans l (Ab.Dm k b (small b (g _ _ _ _ a.1) i).2))⟩)
noncomputable def isStar(j:Expr):Bool:=Nat.beq j.ctorIdx 22
def JY(h:isStar j=false)(a)(y):starEach (j::a) y=(false,eval j y)::starEach a y:=by cases j with|Starred=>show Ck h|_=>rfl
def ct:Fj C B y [] λj f=>some ([],f):=λi e f g p c d s b R=>AW (oP c (G:=λV a=>∃Y,Inv C a Y s/\Step BO f d _ a Y _/\AM a Y _ V []) ⟨d,b,Step.refl _ _ _ b.lt,.nil⟩)
def cq(m:Au C B y j w)(n:Fj C B y z g)(o:isStar j=false):Fj C B y (j::z) λe f=>(w e f).bind λ(v,f)=>(g e f).map λ(D,f)=>(v::D,f):=λG e f A p q d s c R=>wpAny_items_cons (m.b q c R λx T v M Q q i a r=>oL q λE l ev=>ev▸(n _).t l i (R.step a) λD s2 u k b t=>⟨u,k,a.trans b,.cons (r.Cv b) t⟩) (JY o z _)
def b9(o:Au C B y a w)(t:Au C B y b g):Au C B y (.BinOp a (Pj c) b M) λe f=>(w e f).bind λ(x,f)=>(g e f).bind λ(A,f)=>(Cc f c x A).map λv=>(v,f):=λe f V p q d s k R=>wpAny_BinOp (o.b q k R λx I u Q T q l i D=>t.b q l (R.step i) λA L v s2 h q m j E=>oV q (G:=λV p=>wpAny _ _ _ (λr H=>_) E0 s2) λz n=>BW (ZQ m (D.Cv j) E n) (λr s3 h3=>Ab.trans (i.trans j) h3) λG G q=>q)
def cQ(l:Au C B y a w):Au C B y (.UnaryOp .USub a n) λe f=>(w e f).bind λ(x,f)=>(intOf x).map λi=>(.int (-i),f):=λe f V p q d s c R=>wpAny_UnaryOp (l.b q c R λx v u b o q g j m=>oV q (G:=λV p=>wpAny _ B _ (λr H=>_) E0 b) λi k=>m.i k (G:=λu=>wpAny _ B _ _ E0 b) λt=>P.neg_int (Ab.trans j (Ab.same g ⟨_,rfl⟩ (.int _ _))))
end
end
section
mutual
open A
variable{f l o:St}{d Y r:Mu}{s m:Shared}{C:Cx}{i:Around}{h u n:Heap}{y:PySem.Env}{e:Env}
abbrev Ba:=Env->St->Option (V×St)
def CX(w:Ba):Env->St->Option (Bool×St):=λe f=>(w e f).bind λ(v,f)=>(Bb f v).map λb=>(b,f)
def Hw(q:CX w e f=some (b,l)){G:Prop}(k:∀x,w e f=some (x,l)->Bb l x=some b->G):G:=oB q λp a q=>oV q (G:=λb g=>(∀x,_=some (x,g)->_=_->G)->G) (λt c k=>k _ a c) k
def Hv(j:w e f=some (x,l))(a:Bb l x=some b):CX w e f=some (b,l):=by unfold CX;show J j ?_;show(?_:(Bb l x).map _=_);show J a ?_;rfl
def Oa(I:Inv C f d s)(S:Step BO Bg Bn h f d s.heap)(a:Dg s m){b:Bool}:∃Y,Inv C f Y m/\Step BO Bg Bn h f Y m.heap/\b=b:=⟨d,I.same a,by(show Ac a λg c=>?_;(try clear a);obtain rfl:=c);show S,rfl⟩
def jV{w:Ba}(t:Au C i y j w)(p:∀c,isTrue j y c=do let v<-c;standAt j.pos;holding [v] (truthy v)):Dh C i y j (CX w):=λe f b l q d s I R=>Hw q λx q k=>wpAny_isTrue_value (t.t q I R λD B E a g A=>Og a A k λs2 z=>Oa a g z) (p _)
def cW{w:Ba}(k:Au C i y a w):Au C i y (.UnaryOp .Not a A) λe f=>(w e f).bind λ(x,f)=>(Bb f x).map λb=>(.bool !b,f):=λe f V l q d s I R=>wpAny_UnaryOp (k.b q I R λx G D z E q c g v=>oV q (G:=λV l=>wpAny _ i _ (λB m=>_) E0 z) λt j=>not_of (Og c v j λs2 p=>Ab.trans g (Ab.same c p (.bool _))))
def jS(D:Dh C i y a (CX w)):Dh C i y (.UnaryOp .Not a G) (CX λe f=>(w e f).bind λ(x,f)=>(Bb f x).map λb=>(.bool !b,f)):=λe f b l q d s I R=>Hw q λx q c=>oB q λp z q=>oV q (G:=λx g=>Bb g x=_->wpAny _ i _ (λj m=>∃Y,Inv C g Y m/\Step BO f d _ g Y m.heap/\j=b) E0 s) (λt B c=>wpAny_isTrue_Not (D.t (Hv z B) I R λj H E k v A=>⟨E,k,v,A▸AP c⟩)) c
def cE(F:Facts C)(L:i.units+40<cLine){w g:Ba}(D:Au C i y a w)(E:Au C i y b g)(G:behindInMarks (EP c) b=false):Au C i y (.Compare a [EP c] [b] Q) λe f=>(w e f).bind λ(x,f)=>(g e f).bind λ(A,f)=>(BZ f c x A).map λb=>(.bool b,f):=λe f V l q d s I R=>wpAny_Compare1 (D.b q I R λx O n h o q t k M=>E.b q t (R.step k) λA O v s2 r q j p N=>oV q (G:=λV l=>wpAny _ i _ (λT m=>_) E0 s2) λz B=>J7 F L j (M.Cv p) N B λs3 H=>Ab.trans (k.trans p) (Ab.same j H (.bool _))) G
def jP(F:Facts C)(O:i.units+40<cLine){w g:Ba}(H:Au C i y a w)(L:Au C i y b g)(M:behindInMarks (EP c) b=false):Dh C i y (.Compare a [EP c] [b] AC) (CX λe f=>(w e f).bind λ(x,f)=>(g e f).bind λ(A,f)=>(BZ f c x A).map λb=>(.bool b,f)):=λe f V l q d s I R=>Hw q λz q k=>wpAny_isTrue_Compare1 (H.b q I R λx j o n r q D t Q=>L.b q D (R.step t) λA j v s2 u q p B T=>oV q (G:=λz j=>Bb j z=some V->wpAny _ i _ (λh m=>wpAny _ i (truthy h) (λE m=>∃Y,Inv C j Y m/\Step BO f d _ j Y m.heap/\E=V) E0 m) E0 s2) (λz G k=>J7 F O p (Q.Cv B) T G λs3 N=>Kw (AP k▸Oa p (t.trans B) N)) k) M
def cD(F:Facts C)(L:i.units+40<cLine){w g k:Ba}(AC:Au C i y a w)(At:Au C i y b g)(Ch:Au C i y c k)(Db:lastMarks [EP M,EP N] [b,c]=false):Au C i y (.Compare a [EP M,EP N] [b,c] Do) λe f=>(w e f).bind λ(x,f)=>(g e f).bind λ(A,f)=>(BZ f M x A).bind λt=>match t with|false=>some (.bool false,f)|true=>(k e f).bind λ(z,f)=>(BZ f N A z).map λb=>(.bool b,f):=by showλe f V l q d s I R=>Compare_chain (AC.b q I R λx Q W P Z q T p n=>chain_link (At.b q T (R.step p) λA Q v s2 EQ q D B O=>oB q λt H q=>J7 F L D (n.Cv B) O H λs3 j=>Kw ?_)) Db;clear H;cases t with|false=>show oP q (G:=λV l=>Ab C f d _ V l _ s3) (Ab.trans (p.trans B) (Ab.same D j (.bool _)))|true=>show Ac j λY K=>?_;(try clear j);obtain rfl:=K;show chain_last (Ch.b q (D.same ⟨Y,rfl⟩) (R.step (p.trans B)) λz Q X u Ev q E G o=>oV q (G:=λV l=>wpAny _ i _ (λr m=>_) E0 u) λr h=>J7 F L E (O.Cv G) o h λS j=>Ab.trans ((p.trans B).trans G) (Ab.same E j (.bool _)))
def jO(F:Facts C)(M:i.units+40<cLine){w g k:Ba}(AC:Au C i y a w)(At:Au C i y b g)(Ch:Au C i y c k)(Db:lastMarks [EP N,EP O] [b,c]=false):Dh C i y (.Compare a [EP N,EP O] [b,c] Do) (CX λe f=>(w e f).bind λ(x,f)=>(g e f).bind λ(A,f)=>(BZ f N x A).bind λt=>match t with|false=>some (.bool false,f)|true=>(k e f).bind λ(E,f)=>(BZ f O A E).map λb=>(.bool b,f)):=by showλe f V l q d s I R=>Hw q λE q j=>isTrue_chain (AC.b q I R λx h EQ X FM q n z u=>test_link (At.b q n (R.step z) λA h v s2 FS q D B Q=>oB q λt L q=>J7 F M D (u.Cv B) Q L λs3 p=>Kw ?_)) Db;clear L;cases t with|false=>show oP q (G:=λE l=>Bb l E=some V->∃Y,Inv C l Y s3/\Step BO f d _ l Y _/\_) (λj=>AP j▸Oa D (z.trans B) p) j|true=>show Ac p λS W=>?_;(try clear p);obtain rfl:=W;show test_last (Ch.b q (D.same ⟨S,rfl⟩) (R.step (z.trans B)) λE h Ev P Fa q G H K=>oV q (G:=λE l=>Bb l E=some V->wpAny _ i _ (λT m=>wpAny _ i (truthy T) (λo m=>∃Y,Inv C l Y m/\Step BO f d _ l Y m.heap/\o=V) E0 m) E0 P) (λT r j=>J7 F M G (Q.Cv H) K r λZ p=>Kw (AP j▸Oa G ((z.trans B).trans H) p)) j)
def Nu{V:V}(q:VR f d s.heap V v):(Q (.bool (DB V)) s->wpAny (model C.prog C.w) i (compareOp .Is v .none) Q E0 s)/\(Q (.bool !DB V) s->wpAny (model C.prog C.w) i (compareOp .IsNot v .none) Q E0 s):=q.shape (G:=λV v=>(Q (.bool (DB V)) s->wpAny _ i (compareOp _ v _) Q E0 s)/\(Q (.bool !DB V) s->wpAny _ i (compareOp _ v _) Q E0 s)) ⟨λh=>wpAny_is_plain rfl h,λh=>Ot rfl h⟩ (λb=>⟨λh=>wpAny_is_plain rfl h,λh=>Ot rfl h⟩) (λb b=>⟨λh=>wpAny_is_plain rfl h,λh=>Ot rfl h⟩) (λb b=>⟨λh=>wpAny_is_plain rfl h,λh=>Ot rfl h⟩) λx a c=>c▸⟨λh=>wpAny_is_plain rfl h,λh=>Ot rfl h⟩
end
section
mutual
open A
variable{a:Expr}{c:Pos}{k:Nat}{p:Pos}{w:Ba}(b:Au C i y a w)
include b
theorem cL:Au C i y (.Compare a [.Is] [.Constant .none k p] c) λe f=>(w e f).bind λ(x,f)=>some (.bool (DB x),f):=λe f V l q d s I R=>wpAny_Compare1 (b.b q I R λx B z v A q g j t=>Md ((Nu t).1 (oP q (G:=λV l=>Ab C f d _ V l _ v) (Ab.trans j (Ab.same g (.refl _) (.bool _)))))) rfl
theorem cX:Au C i y (.Compare a [.IsNot] [.Constant .none k p] c) λe f=>(w e f).bind λ(x,f)=>some (.bool !DB x,f):=λe f V l q d s I R=>wpAny_Compare1 (b.b q I R λx B z v A q g j t=>Md ((Nu t).2 (oP q (G:=λV l=>Ab C f d _ V l _ v) (Ab.trans j (Ab.same g (.refl _) (.bool _)))))) rfl
theorem jQ:Dh C i y (.Compare a [.Is] [.Constant .none k p] c) (CX λe f=>(w e f).bind λ(x,f)=>some (.bool (DB x),f)):=λe f V l q d s I R=>Hw q λz q g=>wpAny_isTrue_Compare1 (b.b q I R λx E D A B q j t v=>Md ((Nu v).1 (Kw (oP q (G:=λz l=>Bb l z=_->∃Y,Inv C l Y A/\Step BO f d _ l Y _/\_) (λg=>⟨B,j,t,AP g⟩) g)))) rfl
theorem jU:Dh C i y (.Compare a [.IsNot] [.Constant .none k p] c) (CX λe f=>(w e f).bind λ(x,f)=>some (.bool !DB x,f)):=λe f V l q d s I R=>Hw q λz q g=>wpAny_isTrue_Compare1 (b.b q I R λx E D A B q j t v=>Md ((Nu v).2 (Kw (oP q (G:=λz l=>Bb l z=some V->∃Y,Inv C l Y A/\Step BO f d _ l Y _/\_) (λg=>⟨B,j,t,AP g⟩) g)))) rfl
end
end
mutual
open A
def Ql(c:Ba)(a b:Ba):Ba:=λe f=>(c e f).bind λ(x,f)=>(Bb f x).bind λt=>match t with|true=>a e f|false=>b e f
def VW{V:V}(j:Ql c a b e f=some (V,l)){G:Prop}(k:∀t T,CX c e f=some (t,T)->(if t then a e T else b e T)=some (V,l)->G):G:=oB j λp j q=>oB q λt g q=>k t _ (Hv j g) (by clear g;cases t<;>show q)
def cN{g k:Ba}(A:Dh C i y c (CX w))(B:Au C i y a g)(D:Au C i y b k):Au C i y (.IfExp c a b E) (Ql w g k):=λe f V l q d s I R=>VW q λt M v x=>wpAny_IfExp (A.t v I R λH G L p j z=>by clear v;cases t with|true=>cases z;show B.l x p (R.step j) j|false=>cases z;show D.l x p (R.step j) j)
def jR(D:Dh C i y c (CX w))(E:Dh C i y a (CX g))(G:Dh C i y b (CX k)):Dh C i y (.IfExp c a b H) (CX (Ql w g k)):=λe f V l q d s I R=>Hw q λz q A=>VW q λt O v x=>by show AA (D.t v I R λM L N p j B=>?_);clear v;cases t with|true=>cases B;show E.l (Hv x A) p (R.step j) j|false=>cases B;show G.l (Hv x A) p (R.step j) j
end
end
section
mutual
open A
variable{f b q:St}{d Y t:Mu}{s m:Shared}{C:Cx}{a:Around}{h u n:Heap}{y:PySem.Env}{e:Env}
abbrev H4(C:Cx)(a:Around)(y:PySem.Env)(c:BoolOp)(z:List Expr)(w:Ba):Prop:=∀g,Sm C a y (boolOp g c (evalEach z y)) VR w
abbrev HJ(C:Cx)(a:Around)(y:PySem.Env)(c:BoolOp)(z:List Expr)(w:Ba):Prop:=Sm C a y (allTrue c z y) O2 (CX w)
def Sz(w g:Ba):Ba:=λe f=>(w e f).bind λ(v,f)=>(Bb f v).bind λc=>match c with|true=>g e f|false=>some (v,f)
def WI(w g:Ba):Ba:=λe f=>(w e f).bind λ(v,f)=>(Bb f v).bind λc=>match c with|true=>some (v,f)|false=>g e f
def TG{w:Ba}(g:Au C a y j w):H4 C a y c [j] w:=λi=>g
end
section
mutual
open A
variable{j c:Expr}{z:List Expr}{w g:Ba}(i:Au C a y j w)
include i
theorem bool_and(v:H4 C a y .And (c::z) g):H4 C a y .And (j::c::z) (Sz w g):=by intro G e f V b k d s I R;show AA (i.b k I R λx M D H L k l o r=>oB k λA c k=>AA (EI (AA (Cs (Og l r c λs2 p=>?_)))));clear c;cases A with|true=>(show Ac p λB E=>?_;(try clear p);obtain rfl:=E);show(v _).l k (l.same ⟨B,rfl⟩) (R.step o) o|false=>show AW (oP k (G:=λV b=>Ab C f d _ V b D s2) (Ab.trans o (Ab.same l p r)))
theorem Zq(v:H4 C a y .Or (c::z) g):H4 C a y .Or (j::c::z) (WI w g):=by intro G e f V b k d s I R;show AA (i.b k I R λx M D H L k l o r=>oB k λA c k=>AA (EI (AA (Cs (Og l r c λs2 p=>?_)))));clear c;cases A with|false=>(show Ac p λB E=>?_;(try clear p);obtain rfl:=E);show(v _).l k (l.same ⟨B,rfl⟩) (R.step o) o|true=>show AW (oP k (G:=λV b=>Ab C f d _ V b D s2) (Ab.trans o (Ab.same l p r)))
end
end
mutual
open A
def Ui(g:H4 C a y c z w):Au C a y (.BoolOp c z i) w:=g _
def XE(g:HJ C a y c z w):Dh C a y (.BoolOp c z j) (CX w):=λe f V b i d s I R=>wpAny_isTrue_BoolOp (g e f V b i d s I R)
end
section
mutual
open A
variable{j:Expr}{z:List Expr}{w g:Ba}(c:Dh C a y j (CX w))
include c
theorem Yj:HJ C a y .And [j] w:=λe f V b p d s I R=>wpAny_allTrue_And_cons (c.t p I R λr v o i k l=>by cases r with|true=>show wpAny_allTrue_And_nil ⟨o,i,k,l⟩|false=>show⟨o,i,k,l⟩)
theorem Ym:HJ C a y .Or [j] w:=λe f V b p d s I R=>wpAny_allTrue_Or_cons (c.t p I R λr v o i k l=>by cases r with|false=>show wpAny_allTrue_Or_nil ⟨o,i,k,l⟩|true=>show⟨o,i,k,l⟩)
theorem Yi(A:HJ C a y .And z g):HJ C a y .And (j::z) (Sz w g):=λe f G b i d s I R=>Hw i λx i k=>oB i λp j i=>oB i λD r i=>wpAny_allTrue_And_cons (c.t (Hv j r) I R λH B E o l v=>by cases D with|true=>cases v;show A.l (Hv i k) o (R.step l) l|false=>cases v;show oP i (G:=λx b=>Bb b x=_->∃Y,Inv C b Y B/\Step BO f d _ b Y _/\_) (λk=>⟨E,o,l,AP (r.symm.trans k)⟩) k)
theorem Yl(A:HJ C a y .Or z g):HJ C a y .Or (j::z) (WI w g):=λe f G b i d s I R=>Hw i λx i k=>oB i λp j i=>oB i λD r i=>wpAny_allTrue_Or_cons (c.t (Hv j r) I R λH B E o l v=>by cases D with|false=>cases v;show A.l (Hv i k) o (R.step l) l|true=>cases v;show oP i (G:=λx b=>Bb b x=_->∃Y,Inv C b Y B/\Step BO f d _ b Y _/\_) (λk=>⟨E,o,l,AP (r.symm.trans k)⟩) k)
end
end
mutual
open A
def i4(g:∀lo c st p,i≠.Slice lo c st p)(B v):subscripted i false B v=operate [B,v] (getItem B v):=by cases i<;>first|rfl|show absurd rfl (g _ _ _ _)
def cJ(F:Facts C)(O:a.units+40<cLine){w g:Ba}(G:Au C a y o w)(H:Au C a y i g)(N:∀lo L st p,i≠.Slice lo L st p):Au C a y (.Subscript o i AC) λe f=>(w e f).bind λ(x,f)=>(g e f).bind λ(A,f)=>(DT f x A).map λv=>(v,f):=λe f V b c d s I R=>Subscript_ (G.b c I R λx u q Y K c B k h=>H.b c B (R.step k) λA u v s2 P c j l n=>oV c (G:=λV b=>wpAny _ a _ (λr m=>_) E0 s2) λz D=>Dc (d' F O j (h.Cv l) n D) λT id E M Q=>tail_any E M (BW Q (λr s3 h3=>Ab.trans (k.trans l) (Ab.same j h3.1 h3.2)) λt t c=>c) (i4 N q v))
abbrev YV(_:St)(_:Mu)(_:Heap)(r:Option Int)(v:Value):Prop:=IsPart v r
abbrev Mx(C:Cx)(a:Around)(y:PySem.Env)(j:Option Expr)(w:Env->St->Option (Option Int×St)):Prop:=Sm C a y (evalPart j y) YV w
def gM:Mx C a y none λg f=>some (none,f):=λe f r b c d s I R=>AW (oP c (G:=λr b=>∃Y,Inv C b Y s/\Step BO f d _ b Y _/\IsPart _ r) ⟨d,I,Step.refl _ _ _ I.lt,.none⟩)
def gN{w:Ba}(p:Au C a y j w):Mx C a y (some j) λe f=>(w e f).bind λ(v,f)=>(intOf v).map λi=>(some i,f):=λe f r b c d s I R=>p.b c I R λx E g A B c k l z=>oV c (G:=λr b=>∃Y,Inv C b Y A/\Step BO f d _ b Y _/\IsPart g r) λi o=>⟨B,k,l,z.i o (G:=λg=>IsPart g _) λD=>.int _ _⟩
def Sr(C:Cx)(f:St)(d:Mu)(h:Heap)(s:Shared)(j k:Value)(V:V)(b:St)(B:Value):Prop:=∃g c lo i,B=.ref g/\s.heap.IsList g c/\c.size<=sizeLine/\IsPart j lo/\IsPart k i/\Ab C f d h V b (.ref (s.heap.objs.size+1)) {s with heap:=(s.heap.push {cls:=.type "slice",data:=.fields #[j,k,.none]}).push {cls:=.type "list",data:=.seq (slicePick c lo i none)}}
def cY{lo}{w:Ba}(AC:Au C a y o w)(At:Mx C a y lo g)(Db:Mx C a y Ch k)(Do:∀B r,letTemporaryGo o B r=pure ()):Au C a y (.Subscript o (.Slice lo Ch none p) EQ) λe f=>(w e f).bind λ(x,f)=>(g e f).bind λ(l,f)=>(k e f).bind λ(h,f)=>(OP f l h x).map λv=>(v,f):=by showλe f V b c d s I R=>wpAny_Subscript_list_slice (AC.b c I R λx G B Z Ev c O D K=>At.b c O (R.step D) λl G i s2 FM c Q E Y=>Db.b c Q (R.step (D.trans E)) λh G j s3 W c A H F=>?_) Do;have n:(s3.heap.push {cls:=.type "slice",data:=.fields #[i,j,.none]}).objs.size=_:=Gw ..;show oV c (G:=λV b=>Sr C f d _ s3 i j V b B) λz q=>oM q (G:=λz=>Sr C f d _ s3 i j z G B) λS t=>((K.Cv E).Cv H).EE A t λm X u N M=>?_;have T:=A.push {cls:=.type "slice",data:=.fields #[i,j,.none]} (tk:=s3.toks) (dr:=s3.drawn);have L:=Step.push (h:=s3.heap) (d:=W) A.lt {cls:=.type "slice",data:=.fields #[i,j,.none]};have P:=Ab.lst (tk:=s3.toks) (dr:=s3.drawn) T (iX (N.Cv L) l h) (AQ (iV S l h) M);show⟨m,_,l,h,rfl,u,AQ (N.fit M).1 E',Y,F,Ab.trans ((D.trans E).trans H) (Ab.trans L (n▸P))⟩
end
end
section
open Builtin Builtin.ObjectAttr
structure GG(C:Cx):Prop where
 ga:∀c,findIn C.K (.ref (C.cls c)) "__getattribute__"=some (some (.builtin "object.__getattribute__"))
 gx:∀c,findIn C.K (.ref (C.cls c)) "__getattr__"=some none
 sa:∀c,findIn C.K (.ref (C.cls c)) "__setattr__"=some (some (.builtin "object.__setattr__"))
 po:∀c,plainOver C.K (C.cls c)=true
 hd:∀c,hasDictIn C.K (C.cls c)=true
 apart:∀c:Nat,C.h0.get? (C.cls c)≠none
section
mutual
open A
variable{f u D:St}{d Y E:Mu}{s p:Shared}{C:Cx}{A:Around}{h g B:Heap}{y:PySem.Env}{e:Env}
def Inv.Em(F:Facts C)(I:Inv C f d s):C.K.In s.heap:=F.X.keeps I.base
def Vd(j:StrKeys z):lookIn a ⟨c,none,.dict z ep,#[]⟩=some (nsFind z a):=by delta lookIn nsFind findBy;dsimp only;show J Array.find?_toList ?_;cases z.find? _ with|some b=>rfl|none=>
  have:z.toList.any (λb=>b.refKey)=false:=by rw[List.any_eq_false];intro b i;(show Eb (j b (Array.mem_toList_iff.mp i)) λn t h=>?_);simp[DictEntry.refKey,h]
  show J this ?_;rfl
def VR.handed{V}(q:VR f d h V v):handedIn v=true:=q.shape (G:=λa v=>handedIn v=_) rfl (λa=>rfl) (λa a=>rfl) (λa a=>rfl) λa a a=>rfl
structure Mn(C:Cx)(σ:St)(μ:Mu)(h:Heap)(n c:Nat)(as:List (Nat×V))(es:Array DictEntry)(ep:Nat)(m:Str->Option Value):Prop where
 obj:h.get? (μ.loc n).a=some (instObj (C.cls c) (μ.loc n).d)
 km:as.length<=100
 free:∀a V,DI as a=some V->findIn C.K (.ref (C.cls c)) (C.an a)=some none
 dict:h.get? (μ.loc n).d=some ⟨.type "dict",none,.dict es ep,#[]⟩
 keys:StrKeys es
 size:es.size<=as.length
 find:∀name,nsFind es name=m name
 attrs:SV C σ μ h as m
 no:Sk C as m
def QX(I:Inv C f d s)(j:f.objs n=some (.inst c as)):∃z ep m,Mn C f d s.heap n c as z ep m:=by obtain⟨a,b,h3,z,ep,m,i,k,l,o,q,r⟩:=I.objs n _ j;show⟨z,ep,m,a,b,h3,i,k,l,o,q,r⟩
variable{n c:Nat}{as:List (Nat×V)}{z:Array DictEntry}{ep:Nat}{m:Str->Option Value}
def Mn.at(X:Mn C f d h n c as z ep m):InstAt h (d.loc n).a (instObj (C.cls c) (d.loc n).d) (C.cls c) (some ⟨.type "dict",none,.dict z ep,#[]⟩):=⟨X.obj,rfl,rfl,X.dict⟩
def de(F:Facts C)(G:GG C)(I:Inv C f d s){V}(j:f.objs n=some (.inst c as))(b:DI as a=some V)(k:∀v,VR f d s.heap V v->Q v {s with toks:=s.toks+1}):wpAny (model C.prog C.w) A (getAttr (.ref (d.loc n).a) (C.an a) o) Q E0 s:=by show Ox (QX I j) λz ep m X=>AJ (X.attrs a V b) λv l i=>get_value (I.Em F) X.at (G.ga c) (findObj_own (G.hd c) (X.free a V b) rfl (J (Vd X.keys) ?_)) i.handed (k v i);rewrite[X.find];show J l rfl
def b7(F:Facts C)(G:GG C){w:Ba}(N:Au C A y o w)(Q:x=C.an a)(M:eval (.Attribute o x i) y=do
    let I<-eval o y
    standAt i.atName let r<-holding [I] (getAttr I x true)letTemporaryGo o I r
    pure r):Au C A y (.Attribute o x i) λe f=>(w e f).bind λ(v,f)=>(refOf v).bind λn=>(E9 f n).bind λo=>(DI o.2 a).map λv=>(v,f):=by subst Q;showλe f V u q d s l R=>Attribute_any_ (N.b q l R λx m k j h q b t T=>oB q λn L q=>oB q λc ep q=>oV q (G:=λV u=>wpAny _ A _ (λr p=>_) E0 j) λW H=>T.r L (G:=λk=>wpAny _ A (getAttr k _ _) _ E0 j) λg=>de F G b (Lu ep) H λv O=>Ab.trans t (Ab.same b ⟨_,rfl⟩ O)) M
def Ln(h:k=b):DI ((k,w)::as) b=some w:=AE _ (List.find?_cons_of_pos (p:=λa:_×V=>a.1==b) (A5.mpr h))
def JH(h:¬k=b):DI ((k,w)::as) b=DI as b:=AE _ (List.find?_cons_of_neg (p:=λa:_×V=>a.1==b) λq=>h (A5.mp q))
def Nd:DI (Dp as a v) b=if b=a then some v else DI as b:=by
 induction as with|nil=>
  by_cases h:b=a;·show(Ln h.symm).trans (AG h).symm
  ·show(JH λi=>h i.symm).trans (AF h).symm|cons k as l=>
  by_cases j:k.1=a
  ·show J (show Dp (k::as) a v=_ from AG j) ?_;by_cases h:b=a;·show(Ln (j.trans h.symm)).trans (AG h).symm
   ·have q:¬_=b:=λi=>h (i.symm.trans j);show(JH q).trans ((JH q).symm.trans (AF h).symm)
  ·show J (show Dp (k::as) a v=_ from AF j) ?_;by_cases h:k.1=b;·show(Ln h).trans ((Ln h).symm.trans (AF λi=>j (h.trans i)).symm)
   ·show(JH h).trans (l.trans (AE _ (JH h).symm))
def Wa(h:DI as a=some w):(Dp as a v).length=as.length:=by induction as with|nil=>show AS h|cons i as j=>
  by_cases b:i.1=a;·show J (show Dp (i::as) a v=_ from AG b) ?_;rfl
  ·show J (show Dp (i::as) a v=_ from AF b) (AE (·+1) (j ((JH b).symm.trans h)))
def WZ(h:DI as a=none):(Dp as a v).length=as.length+1:=by induction as with|nil=>rfl|cons i as j=>
  by_cases b:i.1=a;·show Ce ((Ln b).symm.trans h)
  ·show J (show Dp (i::as) a v=_ from AF b) (AE _ (j ((JH b).symm.trans h)))
def iM{V}(I:Inv C f d s)(j:f.objs n=some (.inst c as))(AC:as.length<100)(X:Mn C f d s.heap n c as z ep m)(Db:VR f d s.heap V v)(N:findIn C.K (.ref (C.cls c)) (C.an a)=some none)(Do:Heap.SameBut (d.loc n).d s.heap g)(O:g.get? (d.loc n).d=some ⟨.type "dict",none,.dict t At,#[]⟩)(Ch:StrKeys t)(r:t.size<=(if(nsFind z (C.an a)).isSome then z.size else z.size+1))(G:∀x,nsFind t x=if x=C.an a then some v else m x):Inv C (f.set n (.inst c (Dp as a V))) d {s with heap:=g,toks:=tk,drawn:=dr}/\Step BO f d s.heap (f.set n (.inst c (Dp as a V))) d g:=by
 have Q:=DK j;have H:Heap.ExtBut _ _ g:=λb o i y=>(Do.2 b i).trans y;show⟨I.own Q (.inr rfl) H (J O rfl) (λl=>⟨rfl,rfl⟩) (λl l=>rfl) ?_,Step.own I.lt Q (.inr rfl) H (J O rfl) (λl=>⟨rfl,rfl⟩) (λl l=>rfl) λz D q=>nd rfl q⟩;have L:∀{W}{w},VR f d _ W w->VR (f.set n (.inst c (Dp as a V))) d g W w:=λq=>q.own Q (.inr rfl) H λl=>⟨rfl,rfl⟩;show⟨H _ _ (λq=>by have:=X.obj;rw[q,X.dict]at this;injection this with this;injection this with this;cases this) X.obj,?_,?_,t,At,_,O,Ch,?_,G,?_,?_⟩;·cases q:DI as a with|some w=>show J (Wa q) ?_;show(BH AC)|none=>show J (WZ q) ?_;show AC
 ·intro b W i;rw[Nd]at i;by_cases k:b=a;·clear r G L i;subst k;show N
  ·rw[AF k]at i;show X.free b W i
 ·have T:=X.size;cases q:DI as a with|some w=>show J (Wa q) (AJ (X.attrs a w q) λB M l=>?_);rw[X.find,M]at r;show AQ r T|none=>show J (WZ q) (AQ r (iG (G:=(·<=as.length+1)) (λl=>LF T) λl=>HX T))
 ·intro b W i;rw[Nd]at i;by_cases k:b=a;·clear N r G;subst k;rw[AG rfl]at i;(have p:=AP i;clear i;subst p);show⟨v,AG rfl,L Db⟩
  ·rw[AF k]at i;show AJ (X.attrs b W i) λA M u=>⟨A,(J (AF λq=>k (C.Yo _ _ q)) M:(if _=_ then _ else _)=_),L u⟩
 ·intro x e;have h:x≠_:=λq=>e a V (J Nd (J (AG rfl) rfl)) q.symm;show(?_:(if x=_ then _ else _)=_);show J (AF h) (X.no x λb W i q=>?_);by_cases k:b=a;·clear N r G L e;subst k;show h q.symm
  ·show e b W (J Nd (J (AF k) i)) q
def gA(I:StrKeys z){G:Prop}(r:∀k M,Obj.putName a L (.str a t) v ⟨.type "dict",none,.dict z ep,#[]⟩=⟨.type "dict",none,.dict k M,#[]⟩->StrKeys k->k.size<=(if(nsFind z a).isSome then z.size else z.size+1)->(∀x,nsFind k x=if x=a then some v else nsFind z x)->G):G:=by
 cases b:z.findIdx? _ with|some i=>
  show r _ _ (by simp only[Obj.putName_eq,Obj.putNameByArray,b];rfl) (I.modify _ _) ?_ λx=>findBy_modify _ Value.isStr_inj z _ x v i b;have:(nsFind z a).isSome=true:=by delta nsFind findBy;cases q:z.find? _ with|some j=>rfl|none=>rw[Array.find?_eq_none]at q;have N:=Array.findIdx?_eq_some_iff_getElem.mp b;show AJ N λl o O=>absurd o (q _ (Array.getElem_mem l))
  show J (AG this) ?_;simp|none=>show r _ _ (by simp only[Obj.putName_eq,Obj.putNameByArray,b];rfl) (I.push _ _ _ _) ?_ λx=>findBy_push _ z _ x _ _ v (λw=>by
   show(?_:(a==w)=_);by_cases h:w=a;·clear r b;subst h;rfl
   ·have:¬_=w:=λj=>h j.symm;simp[h,this]) b;split<;>simp;rename_i q;exfalso;unfold nsFind findBy at q;rw[Option.isSome_map]at q;show Ac (CG.mp q) λj H=>?_;have l:=Array.findIdx?_eq_none_iff.mp b j (Array.mem_of_find?_eq_some H);have o:=Array.find?_some H;show absurd (l.symm.trans o) (by decide)
def Wo(F:Facts C)(G:GG C)(I:Inv C f d s){V}(j:f.objs n=some (.inst c as))(r:as.length<100)(At:VR f d s.heap V v)(q:findIn C.K (.ref (C.cls c)) (C.an a)=some none)(AC:∀p,Inv C (f.set n (.inst c (Dp as a V))) d p->Step BO f d s.heap (f.set n (.inst c (Dp as a V))) d p.heap->Q () p):wpAny (model C.prog C.w) A (setAttr (.ref (d.loc n).a) (C.an a) v) Q E0 s:=by show Ox (QX I j) λz ep m X=>?_;have k:=I.Em F;show set_plain k X.at (G.sa c) (osa_open k X.at (G.po c) (by unfold takerIn;show J q ?_;rfl) λb=>?_);show AJ (any_some (G.hd c)) λy N O=>AA (AW (AA (AA (wpAny_loadPart X.obj (AA (looks_clsIn k N _ _ _ _ (λl l j=>j) (J O (AW (AA (AW (AA (AA (AA (Je (AW (AA (wpAny_mkText (AA (wpAny_loadPart X.dict ?_)))))))))))))))))));dsimp only;(rewrite[aRefKeyMayBeTheName_at];show J (by rw[Array.any_eq_false'];intro j T;(show Eb (X.keys j T) λn t h=>?_);simp[DictEntry.refKey,h]:z.any (·.refKey)=false) ?_;rewrite[Bool.and_false]);show gA (ep:=ep) (a:=C.an a) (v:=v) (L:=PyData.keyHash C.w.params (C.an a)) (t:=s.toks+1) X.keys λH B o L h3 M=>wpAny_updatePart X.dict ?_;have i:=Iu (f:=Obj.putName _ _ _ v) X.dict (J o rfl);rw[o]at i;have e:H.size<=sizeLine+1:=(λw=>AQ h3 (iG (G:=(·<=sizeLine+1)) (λl=>LF w) λl=>HX w)) (AQ X.size (AQ (BH r) (by decide:100<=sizeLine)));show AA (wpAny_lookBehind i (pastItsLine_dict e) ?_);(show AV (iM (tk:=s.toks+1+1) (dr:=s.drawn) I j r X At q (FN ..) i L h3 (λx=>by rw[M,X.find])) λg u=>?_);show AW (AC _ g u)
def fW(F:Facts C)(G:GG C)(I:Inv C f d s)(j:f.objs n=some (.inst c as))(i:findIn C.K (.ref (C.cls c)) a=some (some (.ref b)))(r:typeIn C.K (.ref b)=some (.type "function"))(o:Q (.ref b,[.ref (d.loc n).a]) s):wpAny (model C.prog C.w) A (getMethod (.ref (d.loc n).a) a t) Q E0 s:=by
 show Ox (QX I j) λz ep m X=>method_fn (I.Em F) X.at (G.ga c) (G.gx c) i r (?_:(lookIn _ _).map _=_) o;show J (Vd X.keys) ?_;rewrite[X.find,X.no _ λk V l q=>?_];·rfl
 ·have:=X.free k V l;rw[q,i]at this;cases this
end
end
end
section
open Builtin Builtin.ObjectAttr
mutual
open A
def IZ:∀{z},z.all (λj=>!isStar j)=true->(backTo b (starEach z y)).any (·.1)=false/\(backTo b (starEach z y)).all (λx=>!x.1)=true:=by intro z;induction z with|nil=>intro c;show⟨rfl,rfl⟩|cons j z a=>
  intro h;simp only[H7,Ct,Jm]at h;rw[JY h.1];have:=a h.2;constructor;·skip;show J this.1 ?_;rfl
  ·skip;show J this.2 ?_;rfl
def N7(o:Expr):Prop:=∀(a:Str)(b:PySem.Env)(t:Sem Value),attributeBase o a b t=t
structure FK(A:Around)(n:Nat):Prop where
 hd:A.handled=none
 depth:A.depth+3*n+22<recursionLimit
 units:A.units+40*n+437<cLine
 frames:∃l,A.frames=some l
def FK.room(D:FK A n):E1 A n:=⟨D.hd,by have:=D.depth;show AZ (A1 _) (BH this),by have:=D.units;show lf this (by simp+arith),D.frames⟩
def FK.Ii(D:FK A n):A.units+40<cLine:=by have:=D.units;show Ai (Ft (A2 _ _) (Ay _ _)) this 
def E1.deeper(D:E1 A (n+1))(y):FK (A.deeper y) n:=by
 obtain⟨a,b,h3,l,c⟩:=D;show⟨a,?_,?_,_,(J c rfl:A.frames.map _=_)⟩;·show(?_:_+1+_+22<_);show lf b (by simp+arith)
 ·show lf h3 (by simp+arith) 
end
section
mutual
open A
variable{f c l:St}{d Y p:Mu}{s b:Shared}{C:Cx}{A:Around}{h m o:Heap}{y:PySem.Env}{e:Env}
def Qr(F:Facts C)(I:Inv C f d s)(R:ER C y e f d h)(k:y.kindOf x=some .globalImplicit)(a:(x=="__debug__")=false)(j:nsIn C.K mainGlobals x=some (some v))(g:Q v s):wpAny (model C.prog C.w) A (eval (.Name x q) y) Q T s:=by show Calls.Name_function_global R.kind k ?_ a;unfold loadGlobal;show J R.glob (AA ((looks_nsIn (I.Em F) j).here (AW g)))
def JR(F:Facts C)(I:Inv C f d s)(R:ER C y e f d h)(u:y.kindOf x=some .globalImplicit)(k:(x=="__debug__")=false)(j:nsIn C.K mainGlobals x=some none)(r:x≠"__name__")(a:bootBuiltins x=some v)(t:Q v s):wpAny (model C.prog C.w) A (eval (.Name x z) y) Q T s:=by show Calls.Name_function_global R.kind u ?_ k;unfold loadGlobal;show J R.glob (J R.blt (AA ((looks_nsIn (I.Em F) j).here (AJ F.blt λw g q=>AA (wpAny_nsGet (g.keeps I.base) (J (q x r) (J a (AW t))))))))
def GF(C:Cx)(f:St)(d:Mu)(h:Heap)(V:V)(c:St):Result->Shared->Prop:=λr b=>Except.casesOn (motive:=λ_=>Prop) r (λ_=>False) λa=>Flow.casesOn (motive:=λ_=>Prop) a False False False λv=>Ab C f d h V c v b
@[elab_as_elim]theorem GF.el{V}(E:GF C f d h V c r b){G:_->Prop}(k:∀v,Ab C f d h V c v b->G (.ok (.ret v))):G r:=by cases r with|error=>show E.elim|ok a=>cases a with|ret v=>show k v E|_=>show E.elim
def Fi(C:Cx)(i:Nat->Addr)(n:Nat)(call:Nat->List V->St->Option (V×St)):Prop:=∀A,E1 A n->∀g a f V c,call g a f=some (V,c)->∀d s j,Inv C f d s->AM f d s.heap a j->codeAny (model C.prog C.w) A (.call (.ref (i g)) ⟨j,[]⟩) (GF C f d s.heap V c) s
variable{i:Nat->Addr}{n:Nat}{call:Nat->List V->St->Option (V×St)}
def TV(K:Fi C i n call)(g:E1 A n){V}(j:call w a f=some (V,c))(I:Inv C f d s)(q:AM f d s.heap a D)(k:∀v b,Ab C f d s.heap V c v b->Q v b):wpAny (model C.prog C.w) A (PySem.call (.ref (i w)) D) Q E0 s:=wpAny_call (codeAny_mono (K A g w a f V c j d s D I q) λr b z=>GF.el z λv=>k v b)
def NX(j:a.any (·.1)=false)(h:wpAny u A (spliced a) (λD b=>Q ⟨D,[]⟩ b) T s):wpAny u A (evalArgs w true a []) Q T s:=by cases a with|nil=>show AA (BW h (λD b m=>(AA (AW (Cs (AA (AW (AA (AW (AW m))))))))) λk k x=>x)|cons x q=>obtain⟨g,x⟩:=x;cases g with|true=>show Ck j|false=>show Calls.evalArgs_plain h
def TU(F:Facts C)(K:Fi C i n call)(E:E1 A n)(G:Fj C A y z g)(t:z.all (λj=>!isStar j)=true)(H:keepIn C.K (.ref (i w))=true){V}(x:g e f=some (u,c))(B:call w (a++u) c=some (V,l))(I:Inv C f d s)(R:ER C y e f d s.heap)(O:AM f d s.heap a first)(L:∀v b,Ab C f d s.heap V l v b->Q v b):wpAny (model C.prog C.w) A (callWith M (.ref (i w)) first (backTo M (starEach z y)) []) Q E0 s:=by show callWith_of (J (IZ t).1 rfl) (keeps_K H)<|NX (IZ t).1 (BW (G _ e f _ _ x d s I R) (by rintro m h⟨o,k,r,N⟩;show⟨k.Em F,TV K E B k ((O.Cv r).append N) λv s2 D=>L v s2 (Ab.trans r D)⟩) λT T q=>q)
end
end
end
section
open Builtin Builtin.ObjectAttr
section
mutual
open A
variable{f b t:St}{d Y u:Mu}{s k:Shared}{C:Cx}{A:Around}{h B r:Heap}{y:PySem.Env}{e:Env}
variable{i:Nat->Addr}{n:Nat}{call:Nat->List V->St->Option (V×St)}
def cC(F:Facts C)(K:Fi C i n call)(o:E1 A n)(G:Fj C A y z g)(M:z.all (λj=>!isStar j)=true)(N:y.kindOf x=some .globalImplicit)(E:(x=="__debug__")=false)(L:nsIn C.K mainGlobals x=some (some (.ref (i w))))(H:keepIn C.K (.ref (i w))=true):Au C A y (.Call (.Name x p) z [] T) λe f=>(g e f).bind λ(D,f)=>call w D f:=λe f V b O d s I R=>oB O λp c m=>Jd (Qr F I R N E L (TU F K o (a:=[]) G M H c m I R .nil λv k Q=>Q))
structure PC(C:Cx)(fa:Nat->Addr)(mn:Nat->Str)(Af:Nat->Nat->Option Nat):Prop where
 found:∀c m f,Af c m=some f->findIn C.K (.ref (C.cls c)) (mn m)=some (some (.ref (fa f)))
 fn:∀c m f,Af c m=some f->typeIn C.K (.ref (fa f))=some (.type "function")
 keep:∀c m f,Af c m=some f->keepIn C.K (.ref (fa f))=true
variable{a:Nat->Str}{l:Nat->Nat->Option Nat}
def cP(F:Facts C)(G:GG C)(K:Fi C i n call)(E:PC C i a l)(At:E1 A n){w:Ba}(Db:Au C A y o w)(Do:Fj C A y z g)(Q:z.all (λj=>!isStar j)=true)(EQ:z.length<30)(Ch:N7 o)(Ev:(AC.endLine==M.line)=true)(FM:x=a m):Au C A y (.Call (.Attribute o x AC) z [] M) λe f=>(w e f).bind λ(v,f)=>(refOf v).bind λn=>(E9 f n).bind λo=>(l o.1 m).bind λw=>(g e f).bind λ(D,f)=>call w (.ref n::D) f:=by subst FM;intro e f V b c d s I R;(rewrite[arm_eval_Call];show J (Ch _ _ _) ?_);show AA (Db.b c I R λW Fk FS Z Fa c N O T=>oB c λS t c=>oB c λp u c=>oB c λL H c=>oB c λX q r=>AA (EI ?_));unfold methodCall;show J (by unfold methodCallForm;show J (IZ Q).2 ?_;show J (BC EQ) ?_;rfl:methodCallForm (z.length+([]).length) (backTo M (starEach z y)) (backToKw M (keywordEach [] y))=true) ?_;have h:=OG t▸T;show AV h.is λB P=>?_;clear T;obtain rfl:=B;show AA (Cs (fW F G N (Lu u) (E.found _ m L H) (E.fn _ m L H) (AA (wpAny_of_eq (by unfold methodCallPos;simp[Ev]) (TU F K At Do Q (E.keep _ m L H) q r N (R.step O) (.cons h .nil) λv k Y=>Ab.trans O Y)))))
structure PB(C:Cx)(fa:Nat->Addr)(init:Nat->Option Nat):Prop where
 makes:∀c f,init c=some f->makesIn C.K (C.cls c)=true
 found:∀c f,init c=some f->findIn C.K (.ref (C.cls c)) "__init__"=some (some (.ref (fa f)))
 fn:∀c f,init c=some f->typeIn C.K (.ref (fa f))=some (.type "function")
 keep:∀c f,init c=some f->keepIn C.K (.ref (C.cls c))=true
variable{q:Nat->Option Nat}
def fq(I:Inv C f d s):Inv C (f.new (.inst c [])) (d.new f.next ⟨s.heap.objs.size+1,s.heap.objs.size,0⟩) {s with heap:=(s.heap.push emptyDict).push (instObj (C.cls c) s.heap.objs.size),toks:=tk,drawn:=dr}/\Step BO f d s.heap (f.new (.inst c [])) (d.new f.next ⟨s.heap.objs.size+1,s.heap.objs.size,0⟩) ((s.heap.push emptyDict).push (instObj (C.cls c) s.heap.objs.size)):=by
 have p:∀z o,_->((s.heap.push emptyDict).push (instObj (C.cls c) s.heap.objs.size)).get? z=some o:=λj j g=>A7 _ (A7 _ g);have w:s.heap.get? (s.heap.objs.size+1)=none:=by cases E:s.heap.get? _ with|none=>rfl|some o=>show absurd (Ci E) (D8.mpr (A1 _))
 have v:=by have:=B4 (o:=instObj (C.cls c) s.heap.objs.size) (s.heap.push emptyDict) rfl;rwa[Gw]at this
 have m:((s.heap.push emptyDict).push (instObj (C.cls c) s.heap.objs.size)).get? _=_:=A7 _ (B4 _ rfl);show⟨I.alloc (l:=⟨_,s.heap.objs.size,0⟩) p w (BV _) (J v rfl) (J m rfl) ?_,Step.alloc I.lt p w (BV _)⟩;show⟨by rw[Mu.Bt];show v,De _,λx V g=>AS g,_,0,_,by rw[Mu.Bt];show m,λg D=>by simp at D,Ag _,λj=>rfl,λx V g=>AS g,λj j=>rfl⟩
def cR(F:Facts C)(K:Fi C i n call)(o:PB C i q)(AC:FK A n)(Db:y.kindOf x=some .globalImplicit)(At:(x=="__debug__")=false)(Ch:nsIn C.K mainGlobals x=some (some (.ref (C.cls c)))):Au C A y (.Call (.Name x p) [] [] Do) λEQ f=>(q c).bind λw=>(call w [.ref f.next] (f.new (.inst c []))).bind λ(v,b)=>if DB v then some (.ref f.next,b)else none:=by
 showλe f V b j d s I R=>oB j λw D j=>oB j λp Q j=>oP (oT j).2 (G:=λV b=>wpAny _ _ _ (Ab C f d s.heap V b) _ _) (Jd (Qr F I R Db At Ch (callWith_of (P:=λh=>h=_) rfl (λh O=>keeps_K (o.keep c w D) h (O▸I.Em F)) (NX rfl (AW ⟨rfl,?_⟩)))));clear R;obtain⟨m,g,N,B,os⟩:=s;show AV (fq (c:=c) (tk:=B) (dr:=N) I) λH M=>wpAny_call (make_core (makes_of (I.Em F) (o.makes c w D)) (looks_findIn (I.Em F) (o.found c w D)) (λW=>bind_fn (I.Em F) _ (o.fn c w D)) (.inl rfl) ?_);show codeAny_mono (K _ (by
  obtain⟨T,a,h3,t,l⟩:=AC;have Y:(Code.builtin "type.__call__" ⟨[.ref (C.cls c)],[]⟩).weight=1:=by kernel_rfl
  have P:(Code.builtin "type.__call__" ⟨[.ref (C.cls c)],[]⟩).cUnits=1:=by kernel_rfl
  show⟨T,(lf (AY Y) (lf a (by simp+arith)):_+_+_+20<_),(lf (AY P) (lf h3 (by simp+arith)):_+_+_+_<_),t,l⟩:E1 (A.under (.builtin "type.__call__" ⟨[.ref (C.cls c)],[]⟩)) n) w _ _ _ _ (V7 (oT j).1▸Q:call w [.ref f.next] _=some (.none,p.2)) _ _ _ H (.cons ?_ .nil)) λS k z=>?_;·have:=VR.ref (σ:=f.new (.inst c [])) (μ:=d.new f.next ⟨m.objs.size+1,m.objs.size,0⟩) (h:=(m.push emptyDict).push (instObj (C.cls c) m.objs.size)) _ (Cq _);rw[Mu.Bt]at this;show this
 ·show GF.el z λv r=>B3 r λG L E u=>⟨u.is,G,L,M.trans E,?_⟩;have:=VR.ref (μ:=G) (h:=k.heap) _ (AZ (Cq _) E.next);rw[(by(show J (E.mu _ (Cq _)).1 ?_;rewrite[Mu.Bt];rfl):(G.loc f.next).a=m.objs.size+1)]at this;show this
end
end
end
section
open Builtin Builtin.ObjectAttr
mutual
open A
def FX(ow:Str->Bool)(y:PySem.Env)(a:Addr):Prop:=a=y.locals\/∃x,ow x=true/\(x,a)∈y.cells
def Ic(ow:Str->Bool)(y:PySem.Env)(x:Str):Prop:=y.kindOf x=some .local\/y.kindOf x=some .cell/\ow x=true 
end
section
mutual
open A
variable{f m o:St}{d Y t:Mu}{s a q:Shared}{C:Cx}{A:Around}{h l r:Heap}{y:PySem.Env}{e g:Env}{ow:Str->Bool}
def ER.Q4(R:ER C y e f d h):LI (FX ow y) h:=by
 intro k I L n u j;rcases u with rfl|⟨x,_,p⟩;·show AJ R.loc λH D z=>?_;rcases D with⟨w,G,E,c,b,_⟩;obtain rfl:=AP (j.symm.trans c);show J b ?_;intro i;cases i
 ·show AV (R.cells x k p) λB z=>?_;rcases B with⟨v,w,c,b⟩;obtain rfl:=AP (j.symm.trans c);show J b ?_;intro i;cases i
def ER.D4(R:ER C y e f d h):Ha (FX ow y) d h:=R.Q4.D4
def Df(C:Cx)(ow:Str->Bool)(y:PySem.Env)(f:St)(d:Mu)(h:Heap)(g:Env)(m:St)(a:Shared):Prop:=∃Y,Inv C m Y a/\Step (FX ow y) f d h m Y a.heap/\ER C y g m Y a.heap
def Df.after(S:Step (FX ow y) f d h m Y l)(P:Df C ow y m Y l g o q):Df C ow y f d h g o q:=B3 P λj b i c=>⟨j,b,S.trans i,c⟩
def Step.fx(S:Step BO f d h m Y l):Step (FX ow y) f d h m Y l:=S.weaken λc b=>b.elim
def Oo{V}(j:upd e i V b=some W){G:Prop}(k:b=i->V=W->G)(c:b≠i->e b=some W->G):G:=(Decidable.em _).elim (λh=>k h (AP ((AG h).symm.trans j))) λh=>c h ((AF h).symm.trans j)
def ER.TX(R:ER C y e f d h){b:Addr}(n:Heap.SameBut b h l){x:Str}{c:Addr}(k:(x,c)∈y.cells)(j:c≠b):(∃v,l.IsCell c v)/\Apart f d c/\C.h0.get? c=none/\c≠y.locals:=(R.cells x c k).imp (λh=>h.imp λu i=>i.sameBut n j) id
def i0{V:V}(I:Inv C f d s)(R:ER C y e f d s.heap)(G:y.kindOf (C.nm i)=some .local)(AC:VR f d s.heap V v)(T:∀a,Df C ow y f d s.heap (upd e i V) f a->Q () a):wpAny (model C.prog C.w) A (storeName y (C.nm i) v) Q E0 s:=by show AJ R.loc λr N m=>wpAny_storeName_local G N (λl L E=>T _ ?_) (J R.kind rfl);have p:=E.extBut;have B:Off f d _ _:=Off.of λM o k b=>R.Q4 (ow:=ow) _ M o k (.inl rfl) b;show⟨d,I.but R.apart R.fresh B λw=>by(show HH L λM w w O w=>?_;(skip));show J O ?_;rfl p,(Step.but I.lt p).weaken λq b=>.inl b,R.kind,R.glob,R.blt,⟨_,L,λj W b n=>Oo b (λD ev=>⟨v,AG (AE _ D),ev▸AC.but B p⟩) λg b=>(m j W b n).imp λu z=>⟨(AF λz=>g (C.inj _ _ z)).trans z.1,z.2.but B p⟩⟩,λj W b n=>Oo b (λD w=>by rw[D,G]at n;show n.elim (λh=>by cases h) λh=>by cases h) λw b=>(R.FT j W b n).imp λc z=>z.imp λu z=>⟨z.1,z.2.1.sameBut E (R.cells _ _ (mem_of_lookup z.1)).2.2.2,z.2.2.but B p⟩,λx c H=>R.TX E H (R.cells x c H).2.2.2,R.one,R.has,R.apart,R.fresh⟩
def iz{V:V}(I:Inv C f d s)(R:ER C y e f d s.heap)(N:y.kindOf (C.nm i)=some .cell)(AC:ow (C.nm i)=true)(Ch:VR f d s.heap V v)(At:∀a,Df C ow y f d s.heap (upd e i V) f a->Q () a):wpAny (model C.prog C.w) A (storeName y (C.nm i) v) Q E0 s:=by show Ac (CG.mp (R.has _ N)) λc L=>?_;have B:=mem_of_lookup L;show CW (R.cells _ c B) λS h o r=>?_;rcases S with⟨Z,m⟩;show wpAny_storeName_cell R.kind N L m λl M D=>At _ ?_;have w:=D.extBut;have E:Off f d _ c:=Off.of λg P k b=>R.Q4 _ g P k (.inr ⟨_,AC,B⟩) b;show AJ R.loc λY q K=>⟨d,I.but h o E λO=>by(show AJ M λg t O=>?_;(skip));show J t ?_;rfl w,(Step.but I.lt w).weaken λX b=>.inr ⟨_,AC,b▸B⟩,R.kind,R.glob,R.blt,⟨Y,q.sameBut D (CE r),λj W b p=>Oo b (λH O=>by rw[H,N]at p;show by cases p) λO b=>(K j W b p).imp λu z=>⟨z.1,z.2.but E w⟩⟩,λj W b p=>Oo b (λH ev=>⟨c,v,H▸L,M,ev▸Ch.but E w⟩) λF b=>(R.FT j W b p).imp λG n=>n.imp λu n=>⟨n.1,n.2.1.sameBut D λz=>F (C.inj _ _ (name_of_addr R.one (mem_of_lookup n.1) (z▸B))),n.2.2.but E w⟩,λx G T=>(Classical.em (G=c)).elim (λz=>⟨⟨some v,z▸M⟩,(R.cells x G T).2⟩) (R.TX D T),R.one,R.has,R.apart,R.fresh⟩
def W'{V:V}(I:Inv C f d s)(R:ER C y e f d s.heap)(b:Ic ow y (C.nm i))(j:VR f d s.heap V v)(c:∀a,Df C ow y f d s.heap (upd e i V) f a->Q () a):wpAny (model C.prog C.w) A (storeName y (C.nm i) v) Q E0 s:=b.elim (λb=>i0 I R b j c) λb=>iz I R b.1 b.2 j c
def Fv(C:Cx)(A:Around)(ow:Str->Bool)(y:PySem.Env)(p:PT)(j:Expr):Prop:=∀V e g,BP p V e=some g->∀f d s v,Inv C f d s->ER C y e f d s.heap->VR f d s.heap V v->wpAny (model C.prog C.w) A (assign j y v) (λb a=>Df C ow y f d s.heap g f a) E0 s
def LK(C:Cx)(A:Around)(ow:Str->Bool)(y:PySem.Env)(i:List PT)(z:List Expr):Prop:=∀b e g,J3 i b e=some g->∀f d s c,Inv C f d s->ER C y e f d s.heap->AM f d s.heap b c->wpAny (model C.prog C.w) A (assignInOrder ((assignEach z y).map (·.2)) c) (λj a=>Df C ow y f d s.heap g f a) E0 s
def WY(k:x=C.nm i)(c:Ic ow y x):Fv C A ow y (.nm i) (.Name x n):=by subst k;showλV e g b f d s v I R j=>assign_Name (W' I R c j λa z=>AP b▸z)
def NR(h:isStar j=false)(b)(y):assignEach (j::b) y=(false,assign j y)::assignEach b y:=by cases j with|Starred=>show Ck h|_=>rfl
def NS:∀{z},z.all (λj=>!isStar j)=true->(assignEach z y).length=z.length/\(assignEach z y).findIdx? (·.1)=none:=by intro z;induction z with|nil=>intro c;show⟨rfl,rfl⟩|cons j z b=>intro h;simp only[H7,Ct,Jm]at h;rw[NR h.1];have:=b h.2;show⟨J B9 (J this.1 rfl),by show J List.findIdx?_cons ?_;simp[this.2]⟩
def isEmpty_nil{b:Type}{u:List b}(j:u.isEmpty=true):u=[]:=LB.mp j
def hG:LK C A ow y [] []:=λi e g b f d s j I R c=>by cases isEmpty_nil (oT b).1;show c.n▸AP (oT b).2▸AW ⟨d,I,Step.refl _ _ _ I.lt,R⟩
def hF(x:Fv C A ow y p j)(B:LK C A ow y G z)(D:isStar j=false):LK C A ow y (p::G) (j::z):=λn e g b f d s u I R k=>by rw[NR D];cases k with|nil=>show AS b|@cons V v n u k E=>show oB b λw H L=>wpAny_assignInOrder_more (BW (x V e w H f d s v I R k) (λi M c=>c.elim λO c=>BW (B n w g L f O M u c.1 c.2.2 (E.step c.2.1 R.D4)) (λi s2 N=>N.after c.2.1) λi i b=>b) λi i b=>b)
def R1(L:A.handled=none)(I:Inv C f d s)(R:ER C y e f d s.heap)(B:VR f d s.heap (.tup c) v)(w:n=c.length)(x:∀D a,Inv C f d a->Step BO f d s.heap f d a.heap->ER C y e f d a.heap->AM f d a.heap c D->Q D a):wpAny (model C.prog C.w) A (unpackItems v n none) Q E0 s:=B.t rfl (G:=λv=>wpAny _ A (unpackItems v n _) Q E0 s) λG H z p j p p=>by show J w (Mine.AU j.size (unpackItems_tuple L z λl u=>?_));have k:=λb E i=>u b E (Av (Ci i)) i;have S:Step BO f d _ f d l:=Step.keeps I.lt k;show x _ _ (I.keeps k) S (R.step S) (j.keeps k)
def ZX{i:List PT}:∀{c:List V}{e g:Env},J3 i c e=some g->i.length=c.length:=by induction i with|nil=>showλb=>(isEmpty_nil (oT b).1)▸rfl|cons p i j=>showλ{c}_ _ b=>by cases c with|nil=>show AS b|cons=>show oB b λk k b=>AE (·+1) (j b)
def hE(L:A.handled=none)(h:LK C A ow y c z)(B:c.length=z.length)(b:z.all (λj=>!isStar j)=true):Fv C A ow y (.tup c) (.Tuple z k O):=λV e g j f d s v I R D=>oB j λw x j=>by show AA (EI ?_);unfold unpack;show J (NS b).2<|AA (Cs (R1 L I R (tup_is x▸D) (by(show J (NS b).1 ?_;show Mine.AU B ?_;show J (ZX j) ?_;rfl)) λM H n u p G=>BW (h w e g j f d H M n p G) (λi s2 N=>N.after u.fx) λi i E=>E))
end
end
end
section
mutual
open A
variable{a:Program}{w:World}{A:Around}{T:Value->Shared->Prop}{s:Shared}
def iE(p:s.heap.PlainList l m)(b:k<0)(e:-(m.size:Int)<=k)(o:-(2^63)<=k)(f:∀d,d.PlainList l (m.setIfInBounds (k+m.size).toNat v)->Heap.SameBut l s.heap d->Q () {s with heap:=d}):wpAny (model a w) A (setItem (.ref l) (.int k t) v) Q T s:=by
 show Ac (id p) λc h=>?_;have g:=p.isList.typeIs;unfold setItem;try with_reducible show Cs ?_
 first|show AA (AW ?_)|skip
 show AA (wpAny_sequenceKey g (by decide) ?_);show AA (Jf g slot_list_setitem (FH slot_list_setitem g entry_list_setitem ?_ (args_list_setitem _ _ _)));show(?_:wpAny _ _ (Builtin.List.listSubscript? _>>=_) _ _ s);show AA (wpAny_listSubscript_int (fitsIndex_neg b o) ?_);clear o;obtain⟨j,rfl⟩:∃j:_,k=Int.negSucc j:=by clear e f;cases k with|ofNat n=>show absurd b (Int.not_lt.mpr (Co n))|negSucc n=>show⟨n,rfl⟩
 have q:(Int.negSucc j+m.size).toNat<_:=Ie (Aa e (by simp+arith)) (Aa b (by simp+arith));show AA (AA (AA (Gq h rfl (AW (AW (J (seqIndex_neg b e) ?_))))));simp only[Option.bind_some,(Io q),Option.map_some];have i:(s.heap.update l (Obj.mapSeq (·.setIfInBounds (Int.negSucc j+_).toNat v))).PlainList l (m.setIfInBounds (Int.negSucc j+m.size).toNat v):=⟨_,by show J (Iu _ h (by rfl)) ?_;rfl⟩;show AA (wpAny_setSeqItemAt h rfl ?_);first|show AA (AW (AW ⟨_,rfl,AW (f _ i (FN ..))⟩))|show AW ⟨.none,rfl,AW (f _ i (FN ..))⟩
def iH{k:Int}(n:s.heap.PlainList l m)(d:0<=k)(i:k<2^63)(o:k<m.size)(g:∀b,b.PlainList l (m.setIfInBounds k.toNat v)->Heap.SameBut l s.heap b->Q () {s with heap:=b}):wpAny (model a w) A (setItem (.ref l) (.int k t) v) Q T s:=by
 show Ac (id n) λc f=>?_;have e:=n.isList.typeIs;unfold setItem;try with_reducible show Cs ?_
 first|show AA (AW ?_)|skip
 show AA (wpAny_sequenceKey e (by decide) ?_);show AA (Jf e slot_list_setitem (FH slot_list_setitem e entry_list_setitem ?_ (args_list_setitem _ _ _)));show(?_:wpAny _ _ (Builtin.List.listSubscript? _>>=_) _ _ s);show AA (wpAny_listSubscript_int (fitsIndex_of d i) ?_);clear i;show Ac (O6 d) λj p=>?_;clear d;obtain rfl:=p;show AA (AA (wpAny_seqItemAt f rfl (AW (J (Io (cnt (Aa o (by simp+arith)))) ?_))));have h:(s.heap.update l (Obj.mapSeq (·.setIfInBounds j v))).PlainList l (m.setIfInBounds j v):=⟨_,by show J (Iu _ f (by rfl)) ?_;rfl⟩;show AA (wpAny_setSeqItemAt f rfl ?_);first|show AA (AW (AW ⟨_,rfl,AW (g _ h (FN ..))⟩))|show AW ⟨.none,rfl,AW (g _ h (FN ..))⟩
end
end
section
mutual
open A
variable{f A H:St}{d Y L:Mu}{s r M:Shared}{C:Cx}{E:Around}{h g G:Heap}{y:PySem.Env}{e I:Env}{ow:Str->Bool}
def e0(k:s.heap.PlainList l m)(o:(m.size:Int)<2^63)(a:place m.size i=some j)(n:∀g,g.PlainList l (m.setIfInBounds j v)->Heap.SameBut l s.heap g->Q () {s with heap:=g}):wpAny (model C.prog C.w) E (setItem (.ref l) (.int i t) v) Q E0 s:=have b:=place_lt a;oI a (λc a=>iH k c (H6 b.2.2 o) b.2.2 (AP (oT a).2▸n)) λc a=>iE k (Int.not_le.mp c) b.2.1 (BE (Jq (D6 o)) b.2.1) (AP (oT a).2▸n)
def AM.set(q:AM f d h u D){V:V}(k:VR f d h V v)(j):AM f d h (u.set j V) (D.set j v):=by
 show AM.of (by simpa using q.length) λi a b=>?_;simp only[List.length_set]at a b;rw[List.getElem_set,List.getElem_set];split;·show k
 ·show q.get i a b
def Vm{l:List a}(h:∀x∈l,w x=x):l.map w=l:=(GP h).trans (List.map_id l)
def P2{m}(h:a=b)(k:l=m):a::l=b::m:=h▸k▸rfl
def CN.stored:∀{z}{c},CN f d h z c->(c.map (·.1)).Nodup->∀{k:SK}{V:V}{v},VR f d h V v->CN f d h (DZ z k V) (PySem.stored c k v):=by intro z;induction z with
 |nil=>intro a q i k V v l;cases a with|nil=>show⟨rfl,l,trivial⟩|cons _ _=>show q.elim
 |cons m z u=>intro a q i k V v l;cases a with|nil=>show q.elim|cons x a=>
   have i:x.1∉a.map (·.1)/\_:=DO.mp i;by_cases j:m.1=k;·have b:=q.1.symm.trans j;have n:PySem.stored (x::a) k v=_:=(AG (GD.mpr (.inl (BC b)))).trans (P2 (AG b) (Vm λp B=>AF λt:_=k=>i.1 ((t.trans b.symm)▸List.mem_map_of_mem B)));show J n (J (show DZ (m::z) k V=_ from AG j) (⟨q.1,l,q.2.2⟩))
   ·have b:=λt=>j (q.1.trans t);have w:(x::a).any (λo=>decide (o.1=k))=a.any _:=AE (·||_) (Bz b);have n:PySem.stored (x::a) k v=x::PySem.stored a k v:=by
     unfold PySem.stored;show J w ?_;by_cases h:a.any (λo=>decide (o.1=k))=true;·show(AG h).trans ((P2 (AF b) rfl).trans (AE _ (AG h).symm))
     ·show(AF h).trans (AE (List.cons _) (AF h).symm)
    show J n (J (show DZ (m::z) k V=_ from AF j) (⟨q.1,q.2.1,u q.2.2 i.2 l⟩))
def Wc:(DZ z k v).length<=z.length+1:=by induction z with|nil=>show Ag _|cons a z b=>
  by_cases h:a.1=k;·show J (show DZ (a::z) k v=_ from AG h) ?_;show A1 _
  ·show J (show DZ (a::z) k v=_ from AF h) ?_;show HX b
open Classical in
def hH:(putC z k v).length<=z.length+1:=by induction z with|nil=>show Ag _|cons a z b=>
  show(?_:(if a.1=k then(a.1,v)::z else _).length<=_);by_cases h:a.1=k;·show J (AG h) (A1 _)
  ·show J (AF h) (HX b)
def TR(f:St)(d:Mu)(h:Heap):List (CV×V)->List (CV×Addr×Value)->Prop|[],[]=>True|(k,x)::a,(b,_,v)::c=>k=b/\VR f d h x v/\TR f d h a c|_,_=>False
def TR.of:∀{z}{u},u.length=z.length->(∀i(b)(c:i<z.length),u[i].1=z[i].1/\VR f d h z[i].2 u[i].2.2)->TR f d h z u:=by intro z;induction z with
 |nil=>intro u a q;cases u with|nil=>trivial|cons _ _=>show absurd a (Jy _)
 |cons k z j=>intro u a q;cases u with|nil=>show absurd a.symm (Jy _)|cons x u=>show⟨(q 0 (GV _) (GV _)).1.symm,(q 0 (GV _) (GV _)).2,j (Ew a) λi b c=>q _ (Ex b) (Ex c)⟩
def TR.to:∀{z}{u},TR f d h z u->u.length=z.length/\∀i(b)(l:i<z.length),u[i].1=z[i].1/\VR f d h z[i].2 u[i].2.2:=by intro z;induction z with
 |nil=>intro u q;cases u with|nil=>show⟨rfl,λi b=>absurd b (HW _)⟩|cons _ _=>show q.elim
 |cons k z a=>intro u q;cases u with|nil=>show q.elim|cons x u=>show⟨AE _ (a q.2.2).1,λi=>match i with|0=>λc j=>⟨q.1.symm,q.2.1⟩|i+1=>λc j=>(a q.2.2).2 i (HV c) (HV j)⟩
open Classical in
open Classical in
def Yv{k:CV}:atKey ((k,a,B)::u) k=some (a,B):=AE (Option.map λx:CV×_=>_) (List.find?_cons_of_pos (BC rfl))
open Classical in
def Yy{p k:CV}(h:¬p=k):atKey ((p,a,B)::u) k=atKey u k:=AE (Option.map _) (List.find?_cons_of_neg λq=>h (A9 q))
open Classical in
def TR.stored:∀{z}{u},TR f d h z u->(u.map (·.1)).Nodup->∀{k:CV}{a}{V:V}{v},VR f d h V v->TR f d h (putC z k V) (storedH u k a v):=by intro z;induction z with
 |nil=>intro u q c k a V v j;cases u with|nil=>show⟨rfl,j,trivial⟩|cons _ _=>show q.elim
 |cons l z o=>intro u q c k a V v j;cases u with|nil=>show q.elim|cons x u=>
   have c:x.1∉u.map (·.1)/\_:=DO.mp c;by_cases i:l.1=k
   ·have m:=by have b:=q.1.symm.trans i;show(storedH_old (b▸Yv:atKey (_::u) k=some (x.2.1,x.2.2)) a v).trans (P2 (AG b) (Vm λp w=>AF λn:_=k=>c.1 ((n.trans b.symm)▸List.mem_map_of_mem w)))
    show J m (J (show putC (l::z) k V=_ from AG i) (⟨q.1,j,q.2.2⟩))
   ·have b:=λn=>i (q.1.trans n);have m:storedH (x::u) k a v=(x.1,x.2.1,x.2.2)::storedH u k a v:=by
     have t:atKey (x::u) k=atKey u k:=Yy (p:=x.1) (a:=x.2.1) (B:=x.2.2) b;unfold storedH;show J t ?_;by_cases h:(atKey u k).isSome=true;·show(AG h).trans ((AE (·::_) (AF b)).trans (AE _ (AG h).symm))
     ·show(AF h).trans (AE (List.cons _) (AF h).symm)
    show J m (J (show putC (l::z) k V=_ from AF i) (⟨q.1,q.2.1,o q.2.2 c.2 j⟩))
def HY(C:Cx)(f:St)(d:Mu)(h:Heap)(A:St)(r:Shared):Prop:=∃Y,Inv C A Y r/\Step BO f d h A Y r.heap
def RG(b:Inv C f d s)(j:f.objs n=some (.list u))(l:g.PlainList (d.loc n).a o)(w:Heap.SameBut (d.loc n).a s.heap g)(x:AM f d s.heap ys o.toList)(t:ys.length<=lim):HY C f d s.heap (f.set n (.list ys)) {s with heap:=g,toks:=tk,drawn:=dr}:=by
 have i:=DK j;show BG (b.objs n _ j) λz a p=>?_;rcases z with⟨O,⟨c,N⟩,_⟩;have k:=w.extBut;have m:(g.get? (d.loc n).a).isSome=true:=by(show Ac l λB v=>?_;(skip));show J v ?_;rfl
 show⟨d,b.own (j:=.list ys) i (.inl rfl) k m (λa=>⟨rfl,rfl⟩) (λa a=>rfl) ⟨⟨o,l,x.own i (.inl rfl) k λa=>⟨rfl,rfl⟩⟩,t,p⟩,Step.own b.lt i (.inl rfl) k m (λa=>⟨rfl,rfl⟩) (λa a=>rfl) λD Q q=>nd rfl q⟩
def gP(a:Inv C f d s)(j:f.objs n=some (.dict z v))(B:g.DictOf (Fe C.prog C.w) (d.loc n).a t)(N:Heap.SameBut (d.loc n).a s.heap g)(O:CN f d s.heap b t)(D:b.length<=lim):HY C f d s.heap (f.set n (.dict b (v+1))) {s with heap:=g,toks:=tk,drawn:=dr}:=by
 have c:=DK j;show BG (a.objs n _ j) λe H x=>?_;rcases e with⟨E,⟨o,h,A,y,_⟩,_⟩;have i:=N.extBut;show HH B λQ w k p T=>?_;have l:(g.get? _).isSome=_:=J p rfl;let Y:Mu:=⟨λm=>if m=n then⟨(d.loc n).a,(d.loc n).d,k⟩else d.loc m,d.A6⟩;have m1:∀m,_=(d.loc m).a/\(Y.loc m).d=(d.loc m).d:=λm=>by
  show(?_:(if m=n then _ else _:Loc).a=_/\(if m=n then _ else _:Loc).d=_);by_cases q:m=n;·show J (AG q) (J q ⟨rfl,rfl⟩)
  ·show J (AF q) ?_;show⟨rfl,rfl⟩
 have u:∀m,_->Y.loc m=_:=λm q=>AF q;show⟨Y,a.own (j:=.dict b _) c (.inl rfl) i l m1 u ⟨⟨t,⟨Q,w,J (m1 n).1 p,by show J (by show(?_:(if n=n then _ else _:Loc).ep=_);(show J (AG rfl) ?_;rfl):(Y.loc n).ep=k) ?_;show T⟩,O.mono λq=>q.own c (.inl rfl) i m1⟩,D,J (m1 n).1 (J (m1 n).2 x)⟩,Step.own a.lt c (.inl rfl) i l m1 u λr G q=>?_⟩;cases q;show⟨z,v,j,Cq _⟩
open Classical in
def gQ(k:Inv C f d s)(j:f.objs n=some (.D1 z))(u:g.DictOfH (Tu C.prog C.w) (d.loc n).a m)(T:Heap.SameBut (d.loc n).a s.heap g)(AC:TR f d s.heap l m)(D:∀x∈m,∃V,Cf V=some x.1/\VR f d s.heap V (.ref x.2.1))(N:l.length<=lim):HY C f d s.heap (f.set n (.D1 l)) {s with heap:=g,toks:=tk,drawn:=dr}:=by
 have b:=DK j;show BG (k.objs n _ j) λe a B=>?_;rcases e with⟨L,⟨o,y,h,G,E,_⟩,_⟩;have c:=T.extBut;have v:(g.get? (d.loc n).a).isSome=true:=by(show HH u λH A r Q a=>?_;(skip));show J Q ?_;rfl
 show AV AC.to λt1 t2=>⟨d,k.own (j:=.D1 l) b (.inl rfl) c v (λa=>⟨rfl,rfl⟩) (λa a=>rfl) ⟨⟨m,u,λx O=>(D x O).imp λV w=>⟨w.1,w.2.own b (.inl rfl) c λa=>⟨rfl,rfl⟩⟩,t1,λi p t=>⟨(t2 i p t).1,(t2 i p t).2.own b (.inl rfl) c λa=>⟨rfl,rfl⟩⟩⟩,N,B⟩,Step.own k.lt b (.inl rfl) c v (λa=>⟨rfl,rfl⟩) (λa a=>rfl) λz I q=>nd rfl q⟩
open Classical in
def eh{P:CV->_->Prop}(h:∀x∈u,P x.1 x.2.1)(c:P k a):∀x∈storedH u k a v,P x.1 x.2.1:=by
 intro x b;unfold storedH at b;split at b;·show AJ (Ar.mp b) λj i l=>?_;clear b;obtain rfl:=l;have:=h j i;unfold putAt;split<;>show this
 ·rcases Cp.mp b with b|b;·show h x b
  ·show J (As.mp b) ?_;show c
open Classical in
def iI(Ch:E.units+40<cLine)(m:Inv C f d s)(Ev:VR f d s.heap o B)(T:VR f d s.heap k O)(AC:VR f d s.heap x v)(j:F9 f o k x=some A)(q:∀r,HY C f d s.heap A r->Q () r):wpAny (model C.prog C.w) E (setItem B O v) Q E0 s:=by
 have M:=E';have b1:∀{a b},a<lim->_->b<=_:=λP R=>AQ R P;show oB j λn K j=>Ev.r K (G:=λB=>wpAny _ E (setItem B O v) Q E0 s) λFS=>JS j (λY l j=>oB j λi F j=>?_) (λe Fk l j=>oB j λDo z j=>?_) λe l j=>oB j λDo z j=>?_;·show BG (m.objs n _ l) λw N I=>?_;rcases w with⟨Fa,Z,H⟩;show oM j (G:=λA=>(∀r,_->Q () r)->_) (λDb W q=>T.i F (G:=λO=>wpAny _ E (setItem _ O v) Q E0 s) λt=>e0 Z (H.fit N).2 (H.size▸W) λg At u=>q _ (RG m l At u (J Array.toList_setIfInBounds (H.set AC Db)) (by simpa using N))) q
 ·show BG (m.objs n _ l) λw N I=>?_;rcases w with⟨EQ,p,D⟩;have G:(EQ.map (·.1)).Nodup:=by(show Xb p λo e c c c c c h=>?_;(skip));show h
  show wpAny_setItem_pairs (Kh T z) p.dictOf (λg y u=>q _ (AP (oT j).2▸gP m l y u (D.stored G AC) (b1 (oT j).1 Wc))) (D.length▸BH (AZ (oT j).1 M))
 ·show BG (m.objs n _ l) λw N I=>?_;rcases w with⟨Y,p,X,L,D⟩;show AJ (Ob T z) λa FM S=>?_;obtain rfl:=FM;have G:(Y.map (·.1)).Nodup:=by(show Oy p λo e c c c c c c h=>?_;(skip));show h
  show wpAny_setItem_heap ((Ai (Nat.succ_le_of_lt (Nat.add_lt_add_left (Ay _ _) _)) Ch):_+1+12<_) S p (λg y u=>q _ (AP (oT j).2▸gQ m l y u ((TR.of L D).stored G AC) (eh (P:=λk a=>∃V,Cf V=some k/\VR f d _ V (.ref a)) X ⟨_,z,T⟩) (b1 (oT j).1 hH))) (L▸BH (AZ (oT j).1 M))
end
end
section
mutual
open A
variable{f B I:St}{d Y N:Mu}{s H Ch:Shared}{C:Cx}{E:Around}{h Db M:Heap}{y:PySem.Env}{e A:Env}{ow:Str->Bool}
abbrev Ya:=V->Env->St->Option (Env×St)
abbrev Ss:=List V->Env->St->Option (Env×St)
def HK(C:Cx)(E:Around)(ow:Str->Bool)(y:PySem.Env)(j:Expr)(w:Ya):Prop:=∀V e f A B,w V e f=some (A,B)->∀d s v,Inv C f d s->ER C y e f d s.heap->VR f d s.heap V v->wpAny (model C.prog C.w) E (assign j y v) (λa H=>Df C ow y f d s.heap A B H) E0 s
def Kz(C:Cx)(E:Around)(ow:Str->Bool)(y:PySem.Env)(z:List Expr)(w:Ss):Prop:=∀a e f A B,w a e f=some (A,B)->∀d s b,Inv C f d s->ER C y e f d s.heap->AM f d s.heap a b->wpAny (model C.prog C.w) E (assignInOrder ((assignEach z y).map (·.2)) b) (λc H=>Df C ow y f d s.heap A B H) E0 s
def HK.go(i:HK C E ow y j w){V:V}(q:w V e f=some (A,B))(b:Inv C f d s)(R:ER C y e f d s.heap)(l:VR f d s.heap V v)(c:Step (FX ow y) Bg Bn g f d s.heap)(k:∀H,Df C ow y Bg Bn g A B H->Q () H):wpAny (model C.prog C.w) E (assign j y v) Q E0 s:=BW (i V e f A B q d s v b R l) (λa m z=>k m (z.after c)) λa a q=>q
def Yw(b:Fv C E ow y p j):HK C E ow y j λv e f=>(BP p v e).map λe=>(e,f):=λV e f A B q d s v a R c=>oV q (G:=λA B=>wpAny _ _ _ (λi H=>Df C ow _ f d _ A B H) E0 s) λk g=>b V e _ g f d s v a R c
def HY.sp(a:HY C f d h B H)(S:Step BO I N M f d h)(R:ER C y e I N M):Df C ow y I N M e B H:=a.elim λb z=>⟨b,z.1,(S.trans z.2).fx,R.step (S.trans z.2)⟩
def Yu(F:Facts C)(G:GG C){w:Ba}(t:Au C E y o w)(D:x=C.an a)(r:∀c,findIn C.K (.ref (C.cls c)) (C.an a)=some none):HK C E ow y (.Attribute o x AC) λv e f=>(w e f).bind λ(x,f)=>(refOf x).bind λn=>(E9 f n).bind λo=>if o.2.length<100 then some (e,f.set n (.inst o.1 (Dp o.2 a v)))else none:=by subst D;intro V e f A B q d s v g R z;show AA (Cs (t.b q g R λT H u O Q q i b L=>oB q λn l q=>oB q λp m q=>AA (EI (AA (Cs ?_)))));show L.r l (G:=λu=>wpAny _ E (setAttr u _ v) _ E0 O) λh=>Wo F G i (Lu m) (oT q).1 (z.Cv b) (r _) λs2 j k=>wpAny_release (oP (oT q).2 (G:=λA B=>Df C ow _ f d _ A B s2) (HY.sp ⟨Q,j,k⟩ b R))
def Yx(r:E.units+40<cLine){w g:Ba}(n:Au C E y o w)(p:Au C E y i g):HK C E ow y (.Subscript o i Q) λv e f=>(w e f).bind λ(x,f)=>(g e f).bind λ(k,f)=>(F9 f x k v).map λf=>(e,f):=by intro V e f A B q d s v c R t;show AA (Cs (n.b q c R λx L u T h q j a D=>AA (Cs (p.b q j (R.step a) λk L O s2 H q l b G=>AA (EI (AA (Cs (AJ (By.mp q) λI m q=>iI r l (D.Cv b) G ((t.Cv a).Cv b) m λs3 z=>wpAny_release (oP (AE _ q) (G:=λA B=>Df C ow _ f d _ A B s3) (z.sp (a.trans b) R))))))))))
def Y1:Kz C E ow y [] λD e f=>if D.isEmpty then some (e,f)else none:=λc e f A B q d s D a R b=>by cases isEmpty_nil (oT q).1;show b.n▸oP (oT q).2 (G:=λA B=>wpAny _ _ _ (λg H=>Df C ow _ f d _ A B H) E0 s) (AW ⟨d,a,Step.refl _ _ _ a.lt,R⟩)
def Y0(l:HK C E ow y j w)(m:Kz C E ow y z g)(n:isStar j=false):Kz C E ow y (j::z) λD e f=>List.casesOn D none λx u=>(w x e f).bind λ(e,f)=>g u e f:=λi e f A B q d s D k R c=>by rw[NR n];cases c with|nil=>show AS q|@cons V v i D c o=>show oB q λp r t=>wpAny_assignInOrder_more (BW (l V e f _ _ r d s v k R c) (λb G a=>a.elim λO a=>BW (m i _ _ A B t O G D a.1 a.2.2 (o.step a.2.1 R.D4)) (λb s2 L=>L.after a.2.1) λb b q=>q) λb b q=>q)
def Yz(L:E.handled=none)(h:Kz C E ow y z w)(o:∀a e f r,w a e f=some r->a.length=z.length)(b:z.all (λj=>!isStar j)=true):HK C E ow y (.Tuple z k O) λv e f=>(FG v).bind λu=>w u e f:=λV e f A B j d s v g R p=>oB j λa n j=>by show AA (EI ?_);unfold unpack;show J (NS b).2<|AA (Cs (R1 L g R (tup_is n▸p) (by(show J (NS b).1 ?_;show J (o _ _ _ _ j) ?_;rfl)) λD x i m l t=>BW (h a e f A B j d x D i l t) (λc s2 G=>G.after m.fx) λc c q=>q))
inductive Gv(σ:St)(μ:Mu)(h:Heap):Fl->Flow->Prop
 |next:Gv σ μ h .next .next
 |cont:Gv σ μ h .cont .cont
 |ret {V:V} {v:Value}:VR σ μ h V v->Gv σ μ h (.ret V) (.ret v)
def Ef(C:Cx)(ow:Str->Bool)(y:PySem.Env)(f:St)(d:Mu)(h:Heap)(fl:Fl)(A:Env)(B:St)(r:Flow)(H:Shared):Prop:=∃Y,Inv C B Y H/\Step (FX ow y) f d h B Y H.heap/\ER C y A B Y H.heap/\Gv B Y H.heap fl r
def Ef.after{fl:Fl}(S:Step (FX ow y) f d h B Y Db)(P:Ef C ow y B Y Db fl A I r Ch):Ef C ow y f d h fl A I r Ch:=P.elim λa z=>⟨a,z.1,S.trans z.2.1,z.2.2⟩
def Df.next(P:Df C ow y f d h A B H):Ef C ow y f d h .next A B .next H:=P.elim λa z=>⟨a,z.1,z.2.1,z.2.2,.next⟩
abbrev O4:=Env->St->Option (Fl×Env×St)
def Sx(C:Cx)(E:Around)(ow:Str->Bool)(y:PySem.Env)(c:Sem Flow)(w:O4):Prop:=∀e f fl A B,w e f=some (fl,A,B)->∀d s,Inv C f d s->ER C y e f d s.heap->wpAny (model C.prog C.w) E c (λr H=>Ef C ow y f d s.heap fl A B r H) E0 s
abbrev D5(C:Cx)(E:Around)(ow:Str->Bool)(y:PySem.Env)(st:Stmt)(w:O4):Prop:=Sx C E ow y (exec st y) w
abbrev GI(C:Cx)(E:Around)(ow:Str->Bool)(y:PySem.Env)(st:List Stmt)(w:O4):Prop:=Sx C E ow y (execs st y) w
def Sx.b(o:Sx C E ow y c w){u:Type}{F}{r:u}(q:(w e f).bind F=some r)(n:Inv C f d s)(R:ER C y e f d s.heap)(k:∀fl AC m a g j,F (fl,AC,m)=some r->Inv C m j g->Step (FX ow y) f d s.heap m j g.heap->ER C y AC m j g.heap->Gv m j g.heap fl a->Q a g):wpAny (model C.prog C.w) E c Q T s:=(Fu.mp q).elim λp z=>BW (o e f _ p.2.1 p.2.2 z.1 d s n R) (λa g i=>i.elim λj i=>k _ p.2.1 p.2.2 a g j z.2 i.1 i.2.1 i.2.2.1 i.2.2.2) λt t q=>q.elim
def Sx.l(k:Sx C E ow y c w){fl:Fl}(q:w e f=some (fl,A,B))(g:Inv C f d s)(R:ER C y e f d s.heap)(i:Step (FX ow y) Bg Bn j f d s.heap):wpAny (model C.prog C.w) E c (λr H=>Ef C ow y Bg Bn j fl A B r H) E0 s:=BW (k e f fl A B q d s g R) (λa a z=>z.after i) λa a q=>q
def oX{fl:Fl}(q:some (fl,e,i)=some (g,A,B)){G:Fl->_->St->Prop}(k:G fl e i):G g A B:=by(show BG (s3 q) λa b c=>?_;clear q;subst a b c);show k
def c8:GI C E ow y [] λe f=>some (.next,e,f):=λe f fl A B q d s a R=>wpAny_execs_nil (oX q (G:=λfl A B=>Ef C ow _ f d _ fl A B _ s) ⟨d,a,Step.refl _ _ _ a.lt,R,.next⟩)
def c7{st}(m:D5 C E ow y st w)(n:GI C E ow y p g):GI C E ow y (st::p) λe f=>(w e f).bind λ(fl,e,f)=>fl.c (g e f) (some (.cont,e,f)) λv=>some (.ret v,e,f):=λe f fl A B q d s l R=>wpAny_execs_cons (m.b q l R λt u x r i j q a c b k=>by cases k with|next=>show n.l q a b c|cont=>show oX q (G:=λfl A B=>Ef C ow _ f d _ fl A B _ i) ⟨j,a,c,b,.cont⟩|ret o=>show oX q (G:=λfl A B=>Ef C ow _ f d _ fl A B _ i) ⟨j,a,c,b,.ret o⟩)
def cz{st}:D5 C E ow y st λa a=>none:=λa a a a a q=>AS q
def cv{w:Ba}(k:Au C E y j w)(l:HK C E ow y t g)(m:swapsWithSole [t] j r.line y=pure false)(o:swappedStores [t] j y=pure none)(n:isStar t=false):D5 C E ow y (.Assign [t] j r) λe f=>(w e f).bind λ(v,f)=>(g v e f).map λ(e,f)=>(.next,e,f):=λe f fl A B q d s b R=>wpAny_Assign_stores (k.b q b R λV L v x G q c a u=>by show AJ (By.mp q) λp i q=>?_;rw[NR n];show oX (AE _ q) (G:=λfl A B=>wpAny _ _ _ (λD H=>Ef C ow _ f d _ fl A B _ H) E0 x) (l.go i c (R.step a) u a.fx λD z=>z.next)) m o
def Gm:List Nat->List V->Env->Env|[]=>λc e=>e|i::b=>λa e=>List.casesOn (motive:=λc=>Env) a e λV a=>Gm b a (upd e i V)
def jz(h:i≠j):upd (upd e i a) j b=upd (upd e j b) i a:=by
 funext k;unfold upd;by_cases c:k=i;·subst c;(show J (AG rfl) ?_;show J (AF h) ?_;show J (AG rfl) ?_;rfl)
 ·by_cases g:k=j;·clear h;subst g;(show J (AG rfl) ?_;show J (AF c) ?_;show J (AG rfl) ?_;rfl)
  ·simp only[AF c,AF g]
def ZW(p:List Nat):∀(a:List V)(e A:Env),J3 (p.map .nm) a e=some A->a.length=p.length/\Gm p a e=A:=by induction p with|nil=>showλa e A b=>by cases isEmpty_nil (oT b).1;show⟨rfl,AP (oT b).2⟩|cons i p c=>showλa e A b=>by cases a with|nil=>show AS b|cons V a=>show⟨AE (·+1) (c a _ _ b).1,(c a _ _ b).2⟩
def jx(p:List Nat):∀(a:List V)(e:Env)(i:Nat)(V:V),i∉p->Gm p a (upd e i V)=upd (Gm p a e) i V:=by induction p with|nil=>showλb b b b b=>rfl|cons j p g=>showλa e i V h=>by cases a with|nil=>rfl|cons W a=>show(AE (Gm p a) (jz λc=>h (by rw[c];show AR))).trans (g a _ i V λm=>h (Ah _ m))
def jw(p c:List Nat):∀(a b:List V)(e:Env),a.length=p.length->Gm (p++c) (a++b) e=Gm c b (Gm p a e):=by induction p with
 |nil=>showλa b e h=>by cases a with|nil=>rfl|cons=>cases h
 |cons i p g=>showλa b e h=>by cases a with|nil=>cases h|cons V a=>show g a b _ (Ew h)
def jy(p:List Nat):∀(a:List V)(e:Env),a.length=p.length->p.Nodup->Gm p.reverse a.reverse e=Gm p a e:=by induction p with|nil=>showλb b b b=>rfl|cons i p c=>showλa e h n=>by cases a with|nil=>cases h|cons V a=>show J Mt (J Mt (J (jw _ _ _ _ _ (List.length_reverse.trans ((Ew h).trans List.length_reverse.symm))) ((jx p a e i V (DO.mp n).1).trans (AE (λe=>upd e i V) (c a e (Ew h) (DO.mp n).2).symm)).symm))
def i3(p)(g:∀i∈p,Ic ow y (C.nm i)):∀(a)(D)(e)(d:Mu)(s),a.length=p.length->Inv C f d s->ER C y e f d s.heap->AM f d s.heap a D->wpAny (model C.prog C.w) E (assignInOrder (p.map λi=>bindName y (C.nm i)) D) (λc H=>Df C ow y f d s.heap (Gm p a e) f H) E0 s:=by induction p with|nil=>showλa D e d s h b R q=>by cases List.length_eq_zero_iff.mp h;cases q.n;show wpAny_assignInOrder_none ⟨d,b,Step.refl _ _ _ b.lt,R⟩|cons i p l=>intro a D e d s h b R q;cases q with|nil=>show by cases h|cons n m=>show wpAny_assignInOrder_more (wpAny_bindName (W' b R (g i AR) n λo z=>z.elim λt z=>BW (l (λj k=>g j (Ah _ k)) _ _ _ t o (Ew h) z.1 z.2.2 (m.step z.2.1 R.D4)) (λc s2 r=>r.after z.2.1) λc c q=>q))
def AM.rev:∀{D},AM f d h g D->AM f d h g.reverse D.reverse:=by induction g with|nil=>showλq=>q.n▸.nil|cons V g i=>intro D q;cases q with|cons a b=>(show J Mt ?_;show J Mt ?_);show(i b).append (.cons a .nil)
def c6(g:swapsWithSole [t] j k.line y=pure false)(i:swappedStores [t] j y=pure (some b))(h:wpAny (model C.prog C.w) E (eval j y) (λv c=>wpAny (model C.prog C.w) E (unpackItems v b.length none) (λm s2=>wpAny (model C.prog C.w) E (assignInOrder (b.reverse.map λn=>bindName y n) m.reverse) (λa=>Q .next) E0 s2) E0 c) E0 s):wpAny (model C.prog C.w) E (exec (.Assign [t] j k) y) Q E0 s:=by(rewrite[exec_Assign_arm];show J g ?_;show J i ?_);show AA (EI (AA (AW (J (AF HL) (AA (BW h (λv c z=>AA (AW (AA (Gp (AA (BW z (λm s2 z=>AA (BW z (λa s3 z=>AW z) λa a q=>q)) λa a q=>q)))))) λa a q=>q))))))
def c4{p:List _}{w:Ba}(L:E.handled=none)(x:Au C E y j w)(O:swapsWithSole [t] j AC.line y=pure false)(T:swappedStores [t] j y=pure (some (p.map C.nm)))(G:p.Nodup)(Q:∀i∈p,Ic ow y (C.nm i)):D5 C E ow y (.Assign [t] j AC) λe f=>(w e f).bind λ(v,f)=>((BP (.tup (p.map .nm)) v e).map λe=>(e,f)).map λ(e,f)=>(.next,e,f):=λe f fl A B q d s k R=>c6 O T (x.b q k R λV P v Y M q l b h=>by show AJ (By.mp q) λN q j=>AJ (By.mp q) λK I r=>?_;cases r;cases j;show oB I λc u q=>AV (ZW p c e _ q) λa j=>R1 L l (R.step b) (tup_is u▸h) (Al _|>.trans a.symm) λF s2 m o n H=>Mine.AU List.map_reverse<|J Bj<|BW (i3 _ (λi D=>Q i (List.mem_reverse.mp D)) _ _ e M s2 (J List.length_reverse (J List.length_reverse a)) m n H.rev) (λg s3 z=>(((jy p c e a G).trans j▸z).after (b.trans o).fx).next) λg g q=>q)
def cy{w:Ba}(i:y.scope.kind=.function)(g:Au C E y j w)(k:swapsWith j none l.line y=pure false):D5 C E ow y (.Expr j l) λe f=>(w e f).bind λ(v,f)=>if DB v then some (.next,e,f)else none:=λe f fl A B q d s b R=>wpAny_Expr_any (g.b q b R λV p v m n q c a o=>oX (oT q).2 (G:=λfl A B=>Ef C ow _ f d _ fl A B _ m) ⟨n,c,a.fx,R.step a,.next⟩) (by unfold interactive;show J i ?_;rfl) k
def c2{w:Ba}(g:Au C E y j w):D5 C E ow y (.Return (some j) m) λe f=>(w e f).map λ(v,f)=>(.ret v,e,f):=by intro e f fl A B q d s b R;show AA (EI (AA (g.m q b R λV n v k l q c a i=>AW (oX (AE _ q) (G:=λfl A B=>Ef C ow _ f d _ fl A B _ k) ⟨l,c,a.fx,R.step a,.ret i⟩))))
def c3:D5 C E ow y (.Return none b) λe f=>some (.ret .none,e,f):=by intro e f fl A B q d s a R;show(?_:wpAny _ _ (do _;return _) _ _ _);show AA (EI (AW (oX q (G:=λfl A B=>Ef C ow _ f d _ fl A B _ s) ⟨d,a,Step.refl _ _ _ a.lt,R,.ret .none⟩)))
def cx:D5 C E ow y (.Continue b) λe f=>some (.cont,e,f):=by intro e f fl A B q d s a R;show AA (EI (AW (oX q (G:=λfl A B=>Ef C ow _ f d _ fl A B _ s) ⟨d,a,Step.refl _ _ _ a.lt,R,.cont⟩)))
def c1(n:Dh C E y c (CX w))(o:GI C E ow y a g)(p:GI C E ow y b k):D5 C E ow y (.If c a b r) λe f=>(CX w e f).bind λ(t,f)=>match t with|true=>g e f|false=>k e f:=λe f fl A B q d s m R=>wpAny_If (n.b q m R λt z u v x q j i l=>by cases t with|true=>cases l;show o.l q j (R.step i) i.fx|false=>cases l;show p.l q j (R.step i) i.fx)
def Yd(C:Cx)(y:PySem.Env)(X:Addr->Prop)(Bg:St)(Bn:Mu)(a:Heap)(t:Nat->Env->St->Prop)(n:Nat)(s:Shared):Prop:=∃e f d,t n e f/\Inv C f d s/\ER C y e f d s.heap/\Step X Bg Bn a f d s.heap
def kE(Q:Dh C E y c (CX w))(T:GI C E ow y L g){fl:Fl}(a:∀r H,Ef C ow y Bg Bn v fl A B r H->P (.ok r) H)(O)(e)(f:St)(q:Ih (CX w) g O e f=some (fl,A,B))(d:Mu)(s)(i:Inv C f d s)(R:ER C y e f d s.heap)(S:Step (FX ow y) Bg Bn v f d s.heap):codeAny (model C.prog C.w) E (.whileLoop c L [] y) P s:=by show codeAny_whileLoop (Yd C y (FX ow y) Bg Bn v λn e f=>Ih (CX w) g n e f=some (fl,A,B)) (λn s=>?_) O ⟨e,f,d,q,i,R,S⟩;rintro⟨e,f,d,q,i,R,S⟩;cases n with|zero=>show AS q|succ n=>show Q.b q i R λt Y u N I q p b x=>?_;cases t with|false=>cases x;show J (AF HL) (wpAny_execs_nil (oX q (G:=λfl A B=>(∀r H,_->P (.ok r) H)->_) (λa=>a _ _ ⟨I,p,S.trans b.fx,R.step b,.next⟩) a))|true=>cases x;show J (AG rfl) (T.b q p (R.step b) λM z D r s2 o q j G l k=>?_);have m:=(S.trans b.fx).trans G;cases k with|next=>show⟨n,Cq _,z,D,o,q,j,l,m⟩|cont=>show⟨n,Cq _,z,D,o,q,j,l,m⟩|ret h=>show oX q (G:=λfl A B=>(∀r H,_->P (.ok r) H)->P _ s2) (λa=>a _ _ ⟨o,j,m,l,.ret h⟩) a
def c5(i:Dh C E y c (CX w))(j:GI C E ow y b g):D5 C E ow y (.While c b [] l) (Ih (CX w) g O):=λe f fl A B q d s a R=>wpAny_While (kE i j (λk k z=>z) O e f q d s a R (Step.refl _ _ _ a.lt))
end
end
section
mutual
open A
variable{X At:Addr->Prop}{f c i:St}{d Y r:Mu}{s p t:Shared}{C:Cx}{A:Around}{h b g:Heap}{y:PySem.Env}{e j:Env}{ow:Str->Bool}
def Step.P'(S:Step X f d h c Y b)(k:∀a,X a->At a\/h.get? a=none):Step At f d h c Y b where
 next:=S.next;mu:=S.mu;A6:=S.A6;old:=S.old;new:=λn D B=>by show AV (S.new n D B) λw x=>⟨w.elim .inl λq=>(k _ q).symm,x.elim .inl λq=>(k _ q).symm⟩
 live:=λa v m=>S.live a (λq=>(k a q).elim v λl=>by rw[l]at m;show AX m) m;kept:=λa o v u z=>S.kept a o (λq=>(k a q).elim v λl=>by rw[l]at u;show AS u) u z;ep:=S.ep
def Clear(y:PySem.Env)(X:Addr->Prop):Prop:=¬X y.locals/\∀x a,(x,a)∈y.cells->¬X a
def ER.MT(R:ER C y e f d h)(S:Step X f d h c Y b)(n:Clear y X)(M:Ha X d h):ER C y e c Y b where
 kind:=R.kind;glob:=R.glob;blt:=R.blt;loc:=by show AJ R.loc λm G q=>?_;rcases G with⟨o,L,I,a,N⟩;show⟨m,⟨o,L,I,S.kept _ o n.1 a R.apart,N⟩,λE V u k=>(q E V u k).imp λv z=>⟨z.1,z.2.step S M⟩⟩
 FT:=λE V u k=>by show Dc (R.FT E V u k) λl v w g q=>?_;rcases g with⟨o,a,B⟩;show⟨l,v,w,⟨o,S.kept _ o (n.2 _ _ (mem_of_lookup w)) a (R.cells _ _ (mem_of_lookup w)).2.1,B⟩,q.step S M⟩
 cells:=λx l D=>by show CW (R.cells x l D) λT H O Q=>?_;rcases T with⟨v,o,a,B⟩;show⟨⟨v,o,S.kept _ o (n.2 x l D) a H,B⟩,H.step S (J a rfl) (n.2 x l D),O,Q⟩
 one:=R.one;has:=R.has;apart:=by show AJ R.loc λm G q=>?_;rcases G with⟨o,L,I,a,N⟩;show R.apart.step S (J a rfl) n.1
 fresh:=R.fresh
def SI(h:Heap)(N l:Addr)(k:Nat)(m:Array Value):Prop:=h.IsListIter N l k/\h.IsList l m\/IsTupIter h N l k/\IsTup h l m 
def SI.data(q:SI h N l k m):∃o D,h.get? N=some o/\o.data=.fields D:=by rcases q with⟨⟨o,n,_,a⟩,_⟩|⟨⟨o,n,_,a⟩,_⟩<;>show⟨o,_,n,a⟩
def SI.seq(q:SI h N l k m):∃o n,h.get? l=some o/\o.data=.seq m n:=by rcases q with⟨_,⟨o,u,_,n,a⟩⟩|⟨_,⟨o,u,_,n,a⟩⟩<;>show⟨o,n,u,a⟩
def SI.keep(q:SI h N l k m)(x:∀o,h.get? N=some o->b.get? N=some o)(z:∀o,h.get? l=some o->b.get? l=some o):SI b N l k m:=by
 rcases q with⟨⟨o,n,v⟩,⟨a,u,w⟩⟩|⟨⟨o,n,v⟩,⟨a,u,w⟩⟩;·show .inl ⟨⟨o,x o n,v⟩,⟨a,z a u,w⟩⟩
 ·show .inr ⟨⟨o,x o n,v⟩,⟨a,z a u,w⟩⟩
def SI.ne(q:SI h N l k m):l≠N:=by show Cg q.data λo x u v=>Cg q.seq λw n h3 a=>?_;rintro rfl;obtain rfl:=AP (u.symm.trans h3);replace a:=v▸a;cases a
def SI.next(q:SI s.heap N l k m)(z:m[k]?=some x)(w:∀b,SI b N l (k+1) m->Heap.SameBut N s.heap b->Q (some x) {s with heap:=b}):wpAny (model C.prog C.w) A (pyNext (.ref N)) Q T s:=by
 have v:=q.ne;rcases q with⟨o,a⟩|⟨o,a⟩;·show wpAny_pyNext_list_item o a z λb u n=>w b (.inl ⟨u,a.extBut n.extBut v⟩) n
 ·show next_tuple_item o a z λb u n=>w b (.inr ⟨u,a.extBut n.extBut v⟩) n
def SI.done(L:A.handled=none)(q:SI s.heap N l k m)(u:m[k]?=none)(o:∀b,Heap.ExtBut N s.heap b->Q none {s with heap:=b}):wpAny (model C.prog C.w) A (pyNext (.ref N)) Q T s:=by
 rcases q with⟨a,n⟩|⟨a,n⟩;·show wpAny_pyNext_list_end L a n u o
 ·show next_tuple_end L a n u o
end
end
section
mutual
open A
variable{X At:Addr->Prop}{f B t:St}{d Y z:Mu}{s w D:Shared}{C:Cx}{n:Around}{h g r:Heap}{y:PySem.Env}{e v:Env}{ow:Str->Bool}
def SI.cls(q:SI h N l k m):∃o,h.get? N=some o/\(o.cls=.type "list_iterator"\/o.cls=.type "tuple_iterator"):=by
 rcases q with⟨⟨o,b,a,_⟩,_⟩|⟨⟨o,b,a,_⟩,_⟩;·show⟨o,b,.inl a⟩
 ·show⟨o,b,.inr a⟩
def jh{N l}{i}{m}(c:IsTupIter s.heap N l i)(u:IsTup s.heap l m)(E:m[i]?=some x)(k:∀g,IsTupIter g N l (i+1)->Heap.SameBut N s.heap g->Q x {s with heap:=g}):wpAny (model C.prog C.w) n (Builtin.SmallTypes.nextOf (.ref N)) Q T s:=by show B3 c λo b p a=>u.elim λH j=>j.2.2.elim λG q=>?_;have A:=j.1;show AA (Jf c.typeIs slot_tupleiter_next (FH slot_tupleiter_next c.typeIs entry_tupleiter_next ?_ (args_tupleiter_next _)));show(?_:wpAny _ _ (field _ 0>>=_) _ _ s);show AA (Jg b a (x:=.ref l) rfl (J (AF HL) (AA (Jg b a (x:=.int i 0) rfl (AA (Gq A q ?_))))));simp only[Int.toNat_natCast,E];show AA (wpAny_setField b a (Ag _) (AW ⟨x,rfl,AW (k _ ⟨_,Iu _ b (Obj.isFreed_of_fields (Obj.data_mapFields a _)),(Obj.cls_mapFields ..).trans p,by rw[Obj.data_mapFields a];rfl⟩ (FN ..))⟩))
def ji{m}(L:n.handled=none)(b:IsTupIter s.heap N l i)(u:IsTup s.heap l m)(A:m[i]?=none)(p:∀g j,Heap.ExtBut N s.heap g->(∃o,g.get? j=some o/\o.cls=.type "StopIteration")->T (.ref j) {s with heap:=g}):wpAny (model C.prog C.w) n (Builtin.SmallTypes.nextOf (.ref N)) Q T s:=by
 show B3 b λo c E a=>u.elim λH k=>k.2.2.elim λG q=>?_;have x:=k.1;show AA (Jf b.typeIs slot_tupleiter_next (FH slot_tupleiter_next b.typeIs entry_tupleiter_next ?_ (args_tupleiter_next _)));show(?_:wpAny _ _ (field _ 0>>=_) _ _ s);show AA (Jg c a (x:=.ref l) rfl (J (AF HL) (AA (Jg c a (x:=.int i 0) rfl (AA (Gq x q ?_))))));simp only[Int.toNat_natCast,A];show AA (Gp (AA (wpAny_setField c a (by simp) (AA (AA (Kv (AA (wpAny_of_eq (a:=Value.none) (by first|rfl|(rfl)) (Kv (AA (wpAny_handled ?_)) (by size_fits)))) (by size_fits)))))));first|show J L ?_|skip
 show AA (AW (wpAny_throw (p _ _ (((FN ..).extBut.push _).push _) ⟨_,B4 _ rfl,rfl⟩)))
def SI.nextOf(q:SI s.heap N l k m)(p:m[k]?=some x)(o:∀g,SI g N l (k+1) m->Heap.SameBut N s.heap g->Q x {s with heap:=g}):wpAny (model C.prog C.w) n (Builtin.SmallTypes.nextOf (.ref N)) Q T s:=by
 have j:=q.ne;rcases q with⟨c,a⟩|⟨c,a⟩;·show wpAny_nextOf_list_item c a p λg i b=>o g (.inl ⟨i,a.extBut b.extBut j⟩) b
 ·show jh c a p λg i b=>o g (.inr ⟨i,a.extBut b.extBut j⟩) b
def SI.fs(L:n.handled=none)(q:SI s.heap N l k m)(i:m[k]?=none)(c:∀g j,Heap.ExtBut N s.heap g->(∃o,g.get? j=some o/\o.cls=.type "StopIteration")->T (.ref j) {s with heap:=g}):wpAny (model C.prog C.w) n (Builtin.SmallTypes.nextOf (.ref N)) Q T s:=by
 rcases q with⟨a,b⟩|⟨a,b⟩;·show wpAny_nextOf_list_end L a b i c
 ·show ji L a b i c
def SI.ext(q:SI h N l k m)(c:Heap.ExtBut b h g)(i:N≠b)(j:l≠b):SI g N l k m:=q.keep (λo a=>c _ o i a) λo a=>c _ o j a
structure ZI(h:Heap)(z TI TO i1 l1:Addr)(k1:Nat)(xs:Array Value)(i2 l2:Addr)(k2:Nat)(ys:Array Value):Prop where
 hz:IsZip h z TI TO .none
 IL:IsPair h TI (.ref i1) (.ref i2)
 a:SI h i1 l1 k1 xs
 b:SI h i2 l2 k2 ys
structure ZA(z TI TO i1 l1 i2 l2:Addr):Prop where
 TIz:TI≠z
 TOz:TO≠z
 i1z:i1≠z
 i2z:i2≠z
 TITO:TI≠TO
 TIi1:TI≠i1
 TIi2:TI≠i2
 TOi1:TO≠i1
 TOi2:TO≠i2
 i12:i1≠i2
 l1z:l1≠z
 l1TO:l1≠TO
 l1i1:l1≠i1
 l1i2:l1≠i2
 l2z:l2≠z
 l2TO:l2≠TO
 l2i1:l2≠i1
 l2i2:l2≠i2
def T5(q:SI s.heap N l k m)(O:IsZip s.heap E TI Do .ellipsis)(M:N≠E)(L:m[k]?=none->n.handled=none)(Ch:∀x g,m[k]?=some x->SI g N l (k+1) m->Heap.SameBut N s.heap g->Q (some x) {s with heap:=g})(AC:m[k]?=none->∀g j,(∀c o,c≠E->c≠N->s.heap.get? c=some o->g.get? c=some o)->(∃o,g.get? j=some o/\o.cls=.type "StopIteration")->T (.ref j) {s with heap:=g}):wpAny (model C.prog C.w) n (Sem.onRaise (Builtin.SmallTypes.nextOf (.ref N)>>=λx=>pure (some x)) λDb=>setField (.ref E) 0 .none) Q T s:=by cases a:m[k]? with|some x=>show wpAny_onRaise (AA (q.nextOf a λb A s2=>AW (Ch x b a A s2)))|none=>show wpAny_onRaise (AA (q.fs (L a) a λb j s2 I=>AJ I λd p i=>?_));have u:=s2 _ _ M.symm O;show Hz u (by decide:0<5) λh3 Db s3=>AC a h3 j (λc o G H q=>s3.extBut _ _ G (s2 _ _ H q)) ⟨d,s3.extBut _ _ (λq=>Value.noConfusion ((AE _ (AP (u.symm.trans (q▸p)))).trans i) λh=>absurd h (by decide)) p,i⟩
def Xe{p G:Nat}(I:ZA E TI k AC Do Ch l2)(Z:ZI s.heap E TI k AC Do p u Ch l2 G ys)(Fa:IsPair s.heap k a b)(L:u[p]?=none\/ys[G]?=none->n.handled=none)(Fk:∀x A,u[p]?=some x->ys[G]?=some A->∀g,IsZip g E TI k (rawInt s.heap.objs.size)->IsPair g TI (.ref AC) (.ref Ch)->IsPair g k x A->SI g AC Do (p+1) u->SI g Ch l2 (G+1) ys->IsPair g s.heap.objs.size x A->(∀c o,c≠E->c≠k->c≠AC->c≠Ch->s.heap.get? c=some o->g.get? c=some o)->Q (.done (.ret (.ref s.heap.objs.size))) {s with heap:=g})(Db:u[p]?=none\/ys[G]?=none->∀g j,(∀c o,c≠E->c≠k->c≠AC->c≠Ch->s.heap.get? c=some o->g.get? c=some o)->(∃a b,IsPair g k a b)->(∃o,g.get? j=some o/\o.cls=.type "StopIteration")->T (.ref j) {s with heap:=g}):wpAny (model C.prog C.w) n (Builtin.«zip.__next__» ⟨[.ref E],[]⟩) Q T s:=by have M:=Z.hz;show(?_:wpAny _ _ (field _ 2>>=_) _ _ _);show AA (Jg M rfl (x:=.bool false) rfl (AA (Jg M rfl (x:=.ref TI) rfl (AA (Gq Z.IL rfl (AA (AA (Jg M rfl (x:=.none) rfl (AW (AA (Gp (AA (Jg M rfl (x:=.ref k) rfl (AA (Hz M (by decide:0<5) λIx S N=>AA ?_)))))))))))))));have t1:=N.extBut _ _ I.TOz Fa;show AA (AA (T5 (Z.a.ext N.extBut I.i1z I.l1z) S I.i1z (λh=>L (.inl h)) (λx r y W s2=>(?_:wpAny _ _ _ _ _ {s with heap:=r})) λy r j G v=>Db (.inl y) r j (λc o i Gc l Gc q=>G c o i l (N.extBut _ _ i q)) ⟨a,b,G _ _ I.TOz I.TOi1 t1⟩ v));have t2:=s2.extBut _ _ I.TOi1 t1;show AA (Gq t2 rfl (AA (wpAny_updateSeq_pair t2 λh3 t3 s3=>?_)));replace t3:IsPair h3 k x b:=t3;show AA (wpAny_letGo (AW ?_));have V:IsZip h3 E TI k _:=s3.extBut _ _ I.TOz.symm (s2.extBut _ _ I.i1z.symm S);have B:∀c o,c≠E->_->_->_->_=some o:=λc o i m l j=>s3.extBut _ _ m (s2.extBut _ _ l (N.extBut _ _ i j));show AA (AA (T5 (s:={s with heap:=h3}) (((Z.b.ext N.extBut I.i2z I.l2z).ext s2.extBut I.i12.symm I.l2i1).ext s3.extBut I.TOi2.symm I.l2TO) V I.i2z (λh=>L (.inr h)) (λA t z EQ e=>(?_:wpAny _ _ _ _ _ {s with heap:=t})) λz t j D v=>Db (.inr z) t j (λc o i m l O q=>D c o i O (B c o i m l q)) ⟨x,b,D _ _ I.TOz I.TOi2 t3⟩ v));have t4:=e.extBut _ _ I.TOi2 t3;show AA (Gq t4 rfl (AA (wpAny_updateSeq_pair t4 λd t5 f=>?_)));replace t5:IsPair d k x A:=t5;show(?_:wpAny _ _ _ _ _ {s with heap:=d});show AA (wpAny_letGo (AW (AW (AA (Gq t5 rfl (AA (wpAny_newTuple (?_:wpAny _ _ _ _ _ {s with heap:=d.push {cls:=_,data:=.seq #[x,A]}}))))))));have w:=f.1.trans (e.1.trans (s3.1.trans (s2.1.trans N.1)));have Go:IsZip d E TI k .ellipsis:=f.extBut _ _ I.TOz.symm (e.extBut _ _ I.i2z.symm V);have Y:=λc o i m l O j=>f.extBut _ _ m (e.extBut _ _ O (B c o i m l j));have X:=((W.ext s3.extBut I.TOi1.symm I.l1TO).ext e.extBut I.i12 I.l1i2).ext f.extBut I.TOi1.symm I.l1TO;have Ev:=EQ.ext f.extBut I.TOi2.symm I.l2TO;have K:=Dd (Ci M);have Fs:IsPair _ _ x A:=w▸B4 _ rfl;have F:∀c o,_->(d.push {cls:=.type "tuple",data:=.seq #[x,A]}).get? c=some o:=λc o j=>A7 _ j;show AA (AA (Hz (F _ _ Go) (by decide:0<5) λFM H1 P=>(?_:wpAny _ _ _ _ _ {s with heap:=FM})));show Hz H1 (by decide:1<5) λFS IN R=>?_;have H:∀c o,c≠E->_->_=some o:=λc o i j=>R.extBut _ _ i (P.extBut _ _ i (F _ _ j));show AW<|J w<|Fk x A y z FS (w▸IN) (H _ _ I.TIz (Y _ _ I.TIz I.TITO I.TIi1 I.TIi2 Z.IL)) (H _ _ I.TOz t5) (X.keep (λo j=>H _ o I.i1z j) λo j=>H _ o I.l1z j) (Ev.keep (λo j=>H _ o I.i2z j) λo j=>H _ o I.l2z j) (R.extBut _ _ K (P.extBut _ _ K Fs)) λc o i m l O j=>H c o i (Y c o i m l O j) 
def kU{p G}(I:ZA E TI i j L k l2)(Z:ZI s.heap E TI i j L p u k l2 G ys)(Ch:IsPair s.heap i a b)(l:u[p]?=some x)(m:ys[G]?=some A)(AC:∀g,IsZip g E TI i (rawInt s.heap.objs.size)->IsPair g TI (.ref j) (.ref k)->IsPair g i x A->SI g j L (p+1) u->SI g k l2 (G+1) ys->IsPair g s.heap.objs.size x A->(∀c o,c≠E->c≠i->c≠j->c≠k->s.heap.get? c=some o->g.get? c=some o)->Q (some (.ref s.heap.objs.size)) {s with heap:=g}):wpAny (model C.prog C.w) n (pyNext (.ref E)) Q T s:=by have H:s.TypeIs (.ref E) _:=⟨_,Z.hz,rfl⟩;show AA (wpAny_attempt (Jf H PySem.F.slot_zip_next (FH PySem.F.slot_zip_next H PySem.F.entry_zip_next (Xe I Z Ch (λh=>h.elim (λq=>Ce (l.symm.trans q)) λq=>Ce (m.symm.trans q)) (λw y t v g M N O d e f r=>by cases l.symm.trans t;cases m.symm.trans v;show⟨_,rfl,AW (AC g M N O d e f r)⟩) λh=>h.elim (λq=>Ce (l.symm.trans q)) λq=>Ce (m.symm.trans q)) (PySem.F.args_zip_next_1 _))))
def kV{p m}(L:n.handled=none)(I:ZA E TI i k Ch l l2)(Z:ZI s.heap E TI i k Ch p u l l2 m ys)(M:IsPair s.heap i a b)(AC:u[p]?=none\/ys[m]?=none)(H:∀g,(∀c o,c≠E->c≠i->c≠k->c≠l->s.heap.get? c=some o->g.get? c=some o)->(∃a b,IsPair g i a b)->Q none {s with heap:=g}):wpAny (model C.prog C.w) n (pyNext (.ref E)) Q T s:=by have j:s.TypeIs (.ref E) _:=⟨_,Z.hz,rfl⟩;show AA (wpAny_attempt (Jf j PySem.F.slot_zip_next (FH PySem.F.slot_zip_next j PySem.F.entry_zip_next (Xe I Z M (λh=>L) (λx t A G=>AC.elim (λq=>AS (q.symm.trans A)) λq=>AS (q.symm.trans G)) λh g r d f O=>?_) (PySem.F.args_zip_next_1 _))));show AJ O λo e N=>AA (wpAny_isInstance ⟨o,e,N⟩ isSubtype_stop (AW (H _ d f)))
end
end
section
mutual
open A
variable{X At:Addr->Prop}{f B H:St}{d Y M:Mu}{s w O:Shared}{C:Cx}{t:Around}{h i G:Heap}{y:PySem.Env}{e I:Env}{ow:Str->Bool}
def Src(C:Cx)(f:St)(d:Mu)(h:Heap)(N:Addr)(X:Addr->Prop)(u:List V)(g:Gd):Prop:=∀b:(Addr->Prop)->List V->Gd->Prop,(∀l k o u,SI h N l k o->Be f d l->AM f d h u (o.toList.drop k)->b (·=N) u none)->(∀n k u,f.objs n=some (.list u)->h.IsListIter N (d.loc n).a k->b (·=N) (u.drop k) (some (n,.list u)))->(∀n k c A,f.objs n=some (.dict c A)->h.IsKeyIter N (d.loc n).a k c.length (d.loc n).ep->b (·=N) ((c.map λE=>HF E.1).drop k) (some (n,.dict c A)))->(∀(x:Int)(n:Nat),IsRangeIter h N x n 1->b (·=N) ((List.range n).map λ(k:Nat)=>.int (x+k)) none)->(∀TI j z m l2 n r v p q u D,ZI h N TI (d.loc n).a j z r p m l2 v q->f.objs n=some .BJ->Be f d TI->Be f d z->Be f d l2->j≠m->AM f d h u (p.toList.drop r)->AM f d h D (q.toList.drop v)->b (λa=>a=N\/a=j\/a=m) (Es u D) (some (n,.BJ)))->b X u g
end
section
mutual
open A
variable{C:Cx}{f:St}{d:Mu}{h:Heap}{N:Addr}
def Src.seq(x:SI h N l k m)(A:Be f d l)(E:AM f d h u (m.toList.drop k)):Src C f d h N (·=N) u none:=λg a b c j n=>a _ _ _ _ x A E
def Src.list{u}(x:f.objs n=some (.list u))(A:h.IsListIter N (d.loc n).a k):Src C f d h N (·=N) (u.drop k) (some (n,.list u)):=λg a b c j l=>b _ _ _ x A
def Src.dict{z}{g}(x:f.objs n=some (.dict z g))(A:h.IsKeyIter N (d.loc n).a k z.length (d.loc n).ep):Src C f d h N (·=N) ((z.map λj=>HF j.1).drop k) (some (n,.dict z g)):=λl a b c m j=>c _ _ _ _ x A
def Src.range{n:Nat}(A:IsRangeIter h N x n 1):Src C f d h N (·=N) ((List.range n).map λ(k:Nat)=>.int (x+k)) none:=λj a b c g l=>g _ _ A
def Src.zip{n p m}{k l}{u ys}(Z:ZI h N TI (d.loc n).a g x p k j l2 m l)(A:f.objs n=some .BJ)(z:Be f d TI)(D:Be f d x)(E:Be f d l2)(q:g≠j)(r:AM f d h u (k.toList.drop p))(v:AM f d h ys (l.toList.drop m)):Src C f d h N (λa=>a=N\/a=g\/a=j) (Es u ys) (some (n,.BJ)):=λL a b c Q o=>o _ _ _ _ _ _ _ _ _ _ _ _ Z A z D E q r v
end
end
mutual
open A
structure Own(C:Cx)(σ:St)(μ:Mu)(h:Heap)(X:Addr->Prop):Prop where
 apart:∀a,X a->Apart σ μ a
 fresh:∀a,X a->C.h0.get? a=none
 ok:LI X h
 live:∀a,X a->(h.get? a).isSome=true
 GB:∀a,X a->¬μ.A6 a
def Own.step(c:Own C f d h X)(S:Step At f d h B Y i)(g:∀a,X a->¬At a):Own C B Y i X where
 apart:=λa b=>(c.apart a b).step S (c.live a b) (g a b);fresh:=c.fresh;ok:=λa o m n b l=>by show Ac (CG.mp (c.live a b)) λk j=>?_;have:=S.kept a k (g a b) j (c.apart a b);obtain rfl:=AP (this.symm.trans l);show c.ok a k m n b j
 live:=λa b=>S.live a (g a b) (c.live a b);GB:=λa b=>J S.A6 (c.GB a b)
def bK(h:A'.dict z v=.dict b a):v=a:=by cases h;rfl
def Src.step(A:Inv C f d s)(Q:Src C f d s.heap N X u g)(c:Own C f d s.heap X)(S:Step At f d s.heap B Y i)(j:∀a,X a->¬At a)(p:Ha At d s.heap)(m:DY B g):Src C B Y i N X u g:=by
 show Q (λX u g=>Own C f d s.heap X->(∀a,X a->¬At a)->DY B g->_) (λl k Fa u y D V c j m=>?_) (λn k u q v c j m=>AJ v λo b r=>.list m ⟨o,S.kept _ o (j _ rfl) b (c.apart _ rfl),J (S.mu n (A.lt n (DK q))).1 r⟩) (λn k O EQ q v c j m=>?_) (λx n v c j m=>.range (S.kept _ _ (j _ rfl) v (c.apart _ rfl))) (λTI FM Ch FS l2 n Gc Go Fk Fs u M2 Z q E L T R W AC c j m=>?_) c j m;·show Cg y.seq λo n b F=>?_;have e:=λz=>D.2 (p l o _ _ z b F);show .seq (y.keep (λo b=>S.kept _ o (j _ rfl) b (c.apart _ rfl)) λo b=>S.kept _ o e b D.1) (D.step S (b▸rfl) e) (V.step S p)
 ·have h:=A.lt n (DK q);show AJ v λo b r=>Dc (S.ep n h O EQ m) λEv JP M H1 Do=>.dict m ⟨o,S.kept _ o (j _ rfl) b (c.apart _ rfl),J (S.mu n h).1 (J (Do (bK (AP (M.symm.trans q)))).2 r)⟩
 ·show Cg Z.a.seq λDb IN t K=>Cg Z.b.seq λo2 Ix w P=>?_;have G:=λz=>E.2 (p TI _ _ _ z Z.IL rfl);have H:=λz=>L.2 (p Ch Db _ _ z t K);have I:=λz=>T.2 (p l2 o2 _ _ z w P);show .zip ⟨J (S.mu n (A.lt n (DK q))).1 (S.kept _ _ (j _ (.inl rfl)) Z.hz (c.apart _ (.inl rfl))),S.kept _ _ G Z.IL E.1,Z.a.keep (λo b=>S.kept _ o (j _ (.inr (.inl rfl))) b (c.apart _ (.inr (.inl rfl)))) λo b=>S.kept _ o H b L.1,Z.b.keep (λo b=>S.kept _ o (j _ (.inr (.inr rfl))) b (c.apart _ (.inr (.inr rfl)))) λo b=>S.kept _ o I b T.1⟩ m (E.step S (Z.IL▸rfl) G) (L.step S (t▸rfl) H) (T.step S (w▸rfl) I) R (W.step S p) (AC.step S p)
def Inv.many(g:Inv C f d s)(D:Own C f d s.heap X)(j:f.objs n=some .BJ)(r:∀c o,¬X c->c≠(d.loc n).a->s.heap.get? c=some o->i.get? c=some o)(AC:∃a b,IsPair i (d.loc n).a a b):Inv C f d {s with heap:=i,toks:=tk,drawn:=dr}/\Step X f d s.heap f d i/\(∀{V:V}{v},VR f d s.heap V v->VR f d i V v)/\∀{V}{v},AM f d s.heap V v->AM f d i V v:=by
 have x:=DK j;have e:∀a o w n,_->_->_->_/\Be f d a:=λa o w k A y l=>⟨r a o (λz=>D.ok a o w k z A y) (l.1 n x).1 A,l⟩;have h:∀{V:V}{v},VR f d _ V v->_:=λq=>q.mono e (Ag _) λT T=>rfl;have t:∀{V}{v},AM f d _ V v->_:=λq=>q.mono e (Ag _) λT T=>rfl;have B:=(g.objs n _ j).2;have alive:∀a,_->(s.heap.get? a).isSome=_->(i.get? a).isSome=_:=λa Q G=>by
  by_cases q:a=(d.loc n).a;·show Eb AC λu v H=>J q (J H rfl)
  ·show Ac (CG.mp G) λo A=>?_;show J (r a o Q q A) ?_;rfl
 have N:∀m,_->_/\_:=λm p=>⟨λz=>(D.apart _ z m p).1 rfl,λz=>(D.apart _ z m p).2 rfl⟩;show⟨⟨λa o E=>r a o (λz=>by have:=D.fresh a z;rw[this]at E;show AS E) (by rintro rfl;rw[(g.fresh n x).1]at E;show AS E) (g.base a o E),λm o em=>?_,λm p=>⟨alive _ (N m p).1 (g.live m p).1,alive _ (N m p).2 (g.live m p).2⟩,g.apart,g.fresh,g.lt,g.Dj,λa l=>alive a (λz=>D.GB a z l) (g.Dw a l),g.Dv,g.gens,g.os⟩,?_,h,t⟩
 ·by_cases p:m=n;·clear r x;subst p;obtain rfl:=AP (em.symm.trans j);show⟨AC,B⟩
  ·have L:=DK em;show OR.mono (λa I l z=>r a I ?_ ?_ l) rfl h t (g.objs m o em)
   ·clear l;rcases z with rfl|rfl;·show(N m L).1
    ·show(N m L).2
   ·clear l;rcases z with rfl|rfl;·show(g.apart m n p L x).1
    ·show CE (g.apart n m (CE p) x L).2.1
 ·show{Step.refl X d _ g.lt with
   live:=alive
   kept:=λa o Q A l=>r a o Q (l n x).1 A}
def Own.many{n:Nat}(b:Own C f d h X)(k:∀a,X a->∃o D,i.get? a=some o/\o.data=.fields D):Own C f d i X where
 apart:=b.apart;fresh:=b.fresh;ok:=λa o p n g l=>by show Cg (k a g) λm D c j=>?_;obtain rfl:=AP (c.symm.trans l);show J j ?_;intro q;cases q
 live:=λa g=>Cg (k a g) λm D c j=>J c rfl;GB:=b.GB
def Xd{Ch Db}(Z:ZI h E TI (d.loc n).a x Q p Ch z l2 FM Db)(j:Own C f d h λa=>a=E\/a=x\/a=z)(g:f.has n)(Do:Be f d TI)(EQ:Be f d Q)(Ev:Be f d l2)(AC:x≠z):ZA E TI (d.loc n).a x Q z l2:=by
 have c:∀{b r},_->r=E\/_->b≠r:=λe s A=>by show HH e λo u k m i=>j.ok _ o u k s (A▸m) i
 have N:∀{r l}{k}{t},SI h r l k t->r≠E:=λq A=>by show AJ q.cls λo m v=>?_;clear j c;subst A;rw[Z.hz]at m;(have T:=AP m;clear m;subst T);rcases v with v|v<;>simp at v
 have L:∃o u k,h.get? TI=some o/\o.data=.seq u k:=⟨_,_,_,Z.IL,rfl⟩;have D:∃o u k,_=_/\_=_:=Z.a.seq.imp λo E=>E.elim λk E=>⟨_,k,E⟩;have s2:∃o u k,h.get? l2=_/\_=_:=Z.b.seq.imp λo E=>E.elim λk E=>⟨_,k,E⟩;show⟨c L (.inl rfl),CE (j.apart E (.inl rfl) n g).1,N Z.a,N Z.b,(Do.1 n g).1,c L (.inr (.inl rfl)),c L (.inr (.inr rfl)),CE (j.apart x (.inr (.inl rfl)) n g).1,CE (j.apart z (.inr (.inr rfl)) n g).1,AC,c D (.inl rfl),(EQ.1 n g).1,c D (.inr (.inl rfl)),c D (.inr (.inr rfl)),c s2 (.inl rfl),(Ev.1 n g).1,c s2 (.inr (.inl rfl)),c s2 (.inr (.inr rfl))⟩
def kW{r}(j:Es u ys=x::r){c:Prop}(g:∀a as b z,u=a::as->ys=b::z->x=.tup [a,b]->r=Es as z->c):c:=by cases u with|nil=>cases j|cons a as=>cases ys with|nil=>cases j|cons b z=>cases j;show g a as b z rfl rfl rfl rfl
def Own.but(c:Own C f d h (·=b))(m:Heap.SameBut b h i)(l:∀o,i.get? b=some o->∀u n,o.data≠.seq u n)(j:(i.get? b).isSome=true):Own C f d i (·=b)where
 apart:=c.apart;fresh:=c.fresh;ok:=λa o u n g k=>by cases g;show l o k u n
 live:=λa g=>by cases g;show j
 GB:=c.GB
def H2(c:Expr)(X:Addr->Prop)(N:Addr):Prop:=(∀a,X a->a=N)\/∃b k p,c=.Tuple b k p
def ey(g:s.heap.get? N=some o)(a:o.cls=.type n)(b:o.data=.fields D)(c:["enumerate","zip","dict_itemiterator","dict_reverseitemiterator","odict_iterator","itertools.zip_longest","itertools.pairwise"].contains n=false)(h:Q () s):wpAny (model C.prog C.w) t (letOwnedTupleGo j (.ref N) v) Q T s:=by cases j<;>first|show AW h|(cases v<;>first|show AW h|(show AA (wpAny_load g ?_);show J a (J b ?_);dsimp only;show J c (AW h)))
def Su(C:Cx)(f:St)(d:Mu)(h:Heap)(N:Addr)(X:Addr->Prop)(x:V)(u:List V)(g:Gd)(v:Value)(w:Shared):Prop:=Inv C f d w/\Step X f d h f d w.heap/\VR f d w.heap x v/\Src C f d w.heap N X u g/\Own C f d w.heap X
def I1(C:Cx)(t:Around)(f:St)(d:Mu)(s:Shared)(b:Expr)(N:Addr)(X:Addr->Prop)(x:V)(u:List V)(g:Gd):Prop:=wpAny (model C.prog C.w) t (pyNext (.ref N)) (λr a=>∃v,r=some v/\wpAny (model C.prog C.w) t (letOwnedTupleGo b (.ref N) v) (λc s2=>Su C f d s.heap N X x u g v s2) E0 a) E0 s
def MY(m:Inv C f d s)(b:Own C f d s.heap (·=N))(a:Heap.SameBut N s.heap i)(c:i.get? N=some o)(A:o.cls=.type n)(p:o.data=.fields D)(E:["enumerate","zip","dict_itemiterator","dict_reverseitemiterator","odict_iterator","itertools.zip_longest","itertools.pairwise"].contains n=false)(k:(∀{V:V}{v},VR f d s.heap V v->VR f d i V v)->(∀{V}{v},AM f d s.heap V v->AM f d i V v)->VR f d i x v/\Src C f d i N (·=N) u g):wpAny (model C.prog C.w) t (letOwnedTupleGo T (.ref N) v) (λl s2=>Su C f d s.heap N (·=N) x u g v s2) E0 {s with heap:=i,toks:=tk}:=by have j:Off f d _ N:=Off.of λo u n r=>b.ok N o u n rfl r;have z:=k (λq=>q.but j a.extBut) λq=>q.but j a.extBut;show ey c A p E ⟨m.but (b.apart N rfl) (b.fresh N rfl) j (λl=>J c rfl) a.extBut,Step.but m.lt a.extBut,z.1,z.2,b.but a (λQ L=>by obtain rfl:=AP (c.symm.trans L);show J p ?_;showλl l=>(λh=>by cases h)) (J c rfl)⟩
def AM.drops{m:Array _}(q:AM f d h (x::u) (m.toList.drop k)):∃v,m[k]?=some v/\VR f d h x v/\AM f d h u (m.toList.drop (k+1)):=by
 have g:k<m.size:=Nat.lt_of_sub_ne_zero λj=>Jy _ (q.length.trans (List.length_drop.trans j));have l:m.toList.drop k=m[k]::m.toList.drop (k+1):=by simp[List.drop_eq_getElem_cons,g]
 replace q:=l▸q;cases q with|cons a b=>show⟨_,Io g,a,b⟩
def fw(n:Inv C f d s)(p:Own C f d s.heap (·=N))(D:SI s.heap N l k m)(q:Be f d l)(E:AM f d s.heap (x::u) (m.toList.drop k)):I1 C t f d s Q N (·=N) x u none:=by
 show B3 E.drops λv L z A=>D.next L λi g r=>⟨_,rfl,?_⟩;rcases id g with⟨⟨o,c,a,b⟩,_⟩|⟨⟨o,c,a,b⟩,_⟩;·show MY n p r c a b (by decide) λk j=>⟨k z,.seq g q (j A)⟩
 ·show MY n p r c a b (by decide) λk j=>⟨k z,.seq g q (j A)⟩
def drop_cons{a:Type}{l:List a}{x:a}{r}(j:l.drop k=x::r):l[k]?=some x/\l.drop (k+1)=r:=by
 have h:k<l.length:=by
  rcases Nat.lt_or_ge k _ with q|q;·show q
  ·replace j:=List.drop_of_length_le q▸j;cases j
 replace j:=List.drop_eq_getElem_cons h▸j;cases j;show⟨Cz h,rfl⟩
def fu(a:Inv C f d s)(l:Own C f d s.heap (·=N))(j:f.objs n=some (.list u))(m:s.heap.IsListIter N (d.loc n).a k)(c:u.drop k=x::r):I1 C t f d s L N (·=N) x r (some (n,.list u)):=a.list j λE p A D=>(PY A (drop_cons c).1).elim λv g=>wpAny_pyNext_list_item m p g.1 λi b q=>⟨v,rfl,b.elim λo z=>MY a l q z.1 z.2.1 z.2.2 (by decide) λk Q=>⟨k g.2,(drop_cons c).2▸.list j b⟩⟩
def ft(l:Inv C f d s)(E:Own C f d s.heap (·=N))(j:f.objs n=some (.dict z Ch))(AC:s.heap.IsKeyIter N (d.loc n).a k z.length (d.loc n).ep)(D:(z.map λj=>HF j.1).drop k=x::r):I1 C t f d s Db N (·=N) x r (some (n,.dict z Ch)):=by
 show BG (l.objs n _ j) λw B y=>?_;rcases w with⟨h,T,u⟩;have A:=u.length;have b:=(drop_cons D).1;rw[D7,By]at b;show AJ (b) λp b Q=>?_;have c:(h.map (·.1))[k]?=some p.1:=by(show Mine.AU u.keys ?_;show J D7 ?_;show J b ?_);rfl
 rw[D7,By]at c;show AJ (c) λH c L=>wpAny_pyNext_dict_item (A▸AC) T c λG i q m e=>⟨_,rfl,m.elim λo g=>MY l E e g.1 g.2.1 g.2.2 (by decide) λa a=>⟨Q▸?_,(drop_cons D).2▸.dict j (A▸m)⟩⟩;rw[L]at q;show SK.el q (G:=λk v=>VR f d i (HF k) v) (λa a=>.int _ _) λa a=>.str _ _
def fv{n:Nat}(g:Inv C f d s)(j:Own C f d s.heap (·=N))(l:IsRangeIter s.heap N A n 1)(b:((List.range n).map λ(k:Nat)=>V.int (A+k))=x::r):I1 C t f d s q N (·=N) x r none:=by cases n with|zero=>show(by cases b)|succ n=>
  rw[List.range_succ_eq_map,Fq,Bj]at b;show AV (List.cons.inj b) λo p=>?_;obtain rfl:=o;obtain rfl:=p;show wpAny_pyNext_range_item l (JK (Ay _ _)) λi a m=>⟨_,rfl,MY g j m a rfl rfl (by decide) λc c=>⟨?_,?_⟩⟩;·show J (show A+_=A by show(HP _)) ?_;show .int _ _
  ·rw[show(_:Int)-1=(n)by show(by simp+arith)]at a;have:=Src.range (C:=C) (f:=f) (d:=d) a;rwa[show(_)=List.map ((λ(k:Nat)=>V.int (A+k))∘Nat.succ) _ from GP λk c=>AE V.int (by show(by simp+arith))]at this
def fy(A:Inv C f d s)(E:Own C f d s.heap λa=>a=N\/a=m\/a=z)(EQ:H2 Go (λa=>a=N\/a=m\/a=z) N)(Z:ZI s.heap N TI (d.loc n).a m Gc p Fa z l2 Fs Fk)(j:f.objs n=some .BJ)(Ch:Be f d TI)(Db:Be f d Gc)(Do:Be f d l2)(AC:m≠z)(FM:AM f d s.heap l (Fa.toList.drop p))(FS:AM f d s.heap H1 (Fk.toList.drop Fs))(Ev:Es l H1=x::r):I1 C t f d s Go N (λa=>a=N\/a=m\/a=z) x r (some (n,.BJ)):=by have D:=Xd Z E (DK j) Ch Db Do AC;obtain⟨Ok,k,Op,rfl⟩:=EQ.resolve_left λq=>D.i1z (q m (.inr (.inl rfl)));show kW Ev λa NE b No X IN Ix JP=>?_;obtain rfl:=X;obtain rfl:=IN;obtain rfl:=Ix;obtain rfl:=JP;show B3 FM.drops λu I Y F=>B3 FS.drops λW M K P=>Eb (A.objs n _ j).1 λPs Re O=>kU D Z O I M λi M2 t1 V H b1 e R=>⟨_,rfl,wpAny_letOwnedTupleGo_zip M2 λOn y g=>CW (A.many (tk:=s.toks) (dr:=s.drawn) E j (λc o v S j=>g.extBut c o (λq=>v (.inl q)) (R c o (λq=>v (.inl q)) S (λq=>v (.inr (.inl q))) (λq=>v (.inr (.inr q))) j)) ⟨u,W,g.extBut _ _ D.TOz V⟩) λB G L Q=>?_⟩;have w:=Dd (Ci Z.hz);have T:=H.ext g.extBut D.i1z D.l1z;have b2:=b1.ext g.extBut D.i2z D.l2z;show⟨B,G,.tup ⟨_,g.extBut _ _ w e,rfl,_,rfl⟩ (A.Ff (BV _)) (.cons (L Y) (.cons (L K) .nil)) (show 2<=_ by decide) ⟨_,g.extBut _ _ w e,rfl⟩,.zip ⟨y,g.extBut _ _ D.TIz t1,T,b2⟩ j Ch Db Do AC (Q F) (Q P),E.many (n:=n) λa h=>h.elim (λj=>j▸⟨_,_,y,rfl⟩) λh=>h.elim (λj=>j▸T.data) λj=>j▸b2.data⟩
def ip(c:Inv C f d s)(Q:Src C f d s.heap N X (x::u) g)(a:Own C f d s.heap X)(m:H2 E X N):I1 C t f d s E N X x u g:=Q (λX p g=>Own C f d _ X->H2 _ X N->p=x::u->I1 C t f d s _ N X x u g) (λl k y p v q z a o b=>fw c a v q (b▸z)) (λn k p b j a o=>fu c a b j) (λn k h Y b j a o=>ft c a b j) (λK n j a o=>fv c a j) (λTI i M w l2 n H I B G O F Z b L T e r A D a m=>fy c a m Z b L T e r A D) a m rfl
def Sa(C:Cx)(t:Around)(f:St)(d:Mu)(s:Shared)(N:Addr)(X:Addr->Prop):Prop:=wpAny (model C.prog C.w) t (pyNext (.ref N)) (λr a=>r=none/\Inv C f d a/\Step X f d s.heap f d a.heap) E0 s
def drop_nil{a:Type}{l:List a}(j:l.drop k=[]):l[k]?=none:=H8 (List.drop_eq_nil_iff.mp j)
def NT(a:Own C f d s.heap (·=N))(b:Inv C f d s)(c:Heap.ExtBut N s.heap i):(none:Option Value)=none/\Inv C f d {s with heap:=i,toks:=tk}/\Step (·=N) f d s.heap f d i:=⟨rfl,b.but (a.apart N rfl) (a.fresh N rfl) (Off.of λo j n g=>a.ok N o j n rfl g) (λz=>absurd z (a.GB N rfl)) c,Step.but b.lt c⟩
def P6{m:Array _}(q:AM f d s.heap [] (m.toList.drop k)):m[k]?=none:=Mi▸drop_nil q.n
def W7(L:t.handled=none)(j:Inv C f d s)(Q:Src C f d s.heap N X [] g)(a:Own C f d s.heap X):Sa C t f d s N X:=Q (λX A g=>Own C f d _ X->A=[]->Sa C t f d s N X) (λl k K A M W x a b=>M.done L (P6 (b▸x)) λi p=>NT a j p) (λn k A b r a m=>j.list b λK B x G=>wpAny_pyNext_list_end L r B (O0 (x.size▸List.drop_eq_nil_iff.mp m)) λi p=>NT a j p) (λn k V Gc b r a m=>BG (j.objs n _ b) λe G AC=>AJ e λFS w D=>wpAny_pyNext_dict_end L (D.length▸r) w (H8 (D.length▸Al _▸List.drop_eq_nil_iff.mp m)) λi p=>NT a j p) (λe n r a m=>wpAny_pyNext_range_end L r (by clear r;cases n with|zero=>show BB 0|succ n=>show absurd (AE List.length m) (by simp)) λi p=>NT a j p) (λTI Ch Fa Db l2 n Ev FM Do EQ E T Z b P R S H Y F a m=>Eb (j.objs n _ b).1 λFk Fs h=>kV L (Xd Z a (DK b) P R S H) Z h (by cases E with|nil=>show .inl (P6 Y)|cons u E=>cases T with|nil=>show .inr (P6 F)|cons Go T=>show by cases m) λi y O=>have z:=j.many a b (λc o v I b=>y c o (λq=>v (.inl q)) I (λq=>v (.inr (.inl q))) (λq=>v (.inr (.inr q))) b) O;⟨rfl,z.1,z.2.1⟩) a rfl
end
end
section
mutual
open A
variable{X At:Addr->Prop}{f H EQ:St}{d Y FS:Mu}{s M Ev:Shared}{C:Cx}{n:Around}{h Ch FM:Heap}{y:PySem.Env}{e Do:Env}{ow:Str->Bool}
def Gz(C:Cx)(f:St)(d:Mu)(h:Heap)(c:Expr)(u:List V)(g:Gd)(H:St)(N:Value)(M:Shared):Prop:=∃a X Y,N=.ref a/\Inv C H Y M/\Step BO f d h H Y M.heap/\Src C H Y M.heap a X u g/\Own C H Y M.heap X/\(∀b,X b->h.get? b=none)/\DY H g/\H2 c X a
def Gz.after(S:Step BO f d h H Y Ch)(P:Gz C H Y Ch m u g EQ N Ev):Gz C f d h m u g EQ N Ev:=by show SF P λa X p j I i Q O l k c=>⟨a,X,p,j,I,S.trans i,Q,O,λb c=>?_,k,c⟩;cases q:h.get? b with|none=>rfl|some o=>have:=S.live b id (J q rfl);rw[l b c]at this;show AX this
def Gy(C:Cx)(n:Around)(y:PySem.Env)(b j:Expr)(w:Env->St->Option (List V×Gd×St)):Prop:=∀e f u g H,w e f=some (u,g,H)->∀d s,Inv C f d s->ER C y e f d s.heap->wpAny (model C.prog C.w) n (eval j y) (λv a=>wpAny (model C.prog C.w) n (pyIter v) (λN s2=>Gz C f d s.heap b u g H N s2) E0 a) E0 s
def WK(I:Inv C f d s)(k:o.data=.fields D)(i:o.isFreed=false){tk:Nat}:Own C f d (s.heap.push o) (·=s.heap.objs.size)where
 apart:=λa b=>by cases b;show I.Eh (BV _)
 fresh:=λa b=>by cases b;show I.newOf (BV _)
 ok:=λa m u l b c=>by cases b;rw[B4 _ i]at c;(have j:=AP c;clear c;subst j);show J k ?_;intro q;cases q
 live:=λa b=>by cases b;show J (B4 _ i) ?_;rfl
 GB:=λa b=>by cases b;show(I.Ff (BV _)).2
def Gy.go(t:Gy C n y A j w){B:Type}{F}{r:B}(q:(w e f).bind F=some r)(I:Inv C f d s)(R:ER C y e f d s.heap)(k:∀u g m N i l a X,F (u,g,m)=some r->N=.ref a->Inv C m l i->Step BO f d s.heap m l i.heap->Src C m l i.heap a X u g->Own C m l i.heap X->(∀b,X b->s.heap.get? b=none)->DY m g->H2 A X a->Q N i):wpAny (model C.prog C.w) n (eval j y) (λv i=>wpAny (model C.prog C.w) n (pyIter v) Q E0 i) E0 s:=(Fu.mp q).elim λp z=>BW (t e f _ p.2.1 p.2.2 z.1 d s I R) (λv i c=>BW c (λN s2 c=>c.elim λa c=>c.elim λX c=>c.elim λl c=>k _ p.2.1 p.2.2 N s2 l a X z.2 c.1 c.2.1 c.2.2.1 c.2.2.2.1 c.2.2.2.2.1 c.2.2.2.2.2.1 c.2.2.2.2.2.2.1 c.2.2.2.2.2.2.2) λo o q=>q) λo o q=>q
def oG(q:some (u,g,i)=some (ys,L,H)){G:List V->Gd->St->Prop}(k:G u g i):G ys L H:=by(show BG (s3 q) λa b c=>?_;clear q;subst a b c);show k
def Ny(I:Inv C f d s)(i:o.data=.fields D)(j:o.isFreed=false)(l:Src C f d (s.heap.push o) s.heap.objs.size (·=s.heap.objs.size) u g)(k:DY f g):Gz C f d s.heap m u g f (.ref s.heap.objs.size) {s with heap:=s.heap.push o,toks:=tk}:=⟨_,_,d,rfl,I.push o,Step.push I.lt o,l,WK (tk:=tk) I i j,λb c=>c▸BV _,k,.inl λa c=>c⟩
def K'(C:Cx)(n:Around)(f:St)(d:Mu)(s:Shared)(a:Expr)(u:List V)(g:Gd)(v:Value):Prop:=wpAny (model C.prog C.w) n (pyIter v) (λN s2=>Gz C f d s.heap a u g f N s2) E0 s
def oQ(q:some (u,g)=some (ys,L)){G:List V->Gd->Prop}(k:G u g):G ys L:=by(show AV (s2 q) λa b=>?_;clear q;subst a b);show k
def eV(F:Facts C)(I:Inv C f d s){V:V}(q:VR f d s.heap V v)(j:Nz f V=some (u,g)):K' C n f d s G u g v:=by cases V with|tup p=>show q.t rfl λa o i l k m c=>oQ j (G:=λu g=>K' C n f d s _ u g _) (iter_tuple i (Ny I rfl rfl (.seq (k:=0) (.inr ⟨⟨_,B4 _ rfl,rfl,rfl⟩,i.push _⟩) l (k.keeps λc c j=>A7 _ j)) trivial))|lst p=>show q.l rfl λa o i l k m=>oQ j (G:=λu g=>K' C n f d s _ u g _) (Ou i (Ny I rfl rfl (.seq (k:=0) (.inl ⟨⟨_,B4 _ rfl,rfl,rfl⟩,i.push _⟩) l (k.keeps λc c j=>A7 _ j)) trivial))|ref z=>
  show q.r rfl λc=>JS j (λp b j=>?_) (λB L b j=>?_) λc c j=>nS j;·show oQ j (G:=λu g=>K' C n f d s _ u g _) (I.list b λo m k w=>Ou m (Ny I rfl rfl (.list (k:=0) b ⟨_,B4 _ rfl,rfl,rfl⟩) b))
  ·show BG (I.objs z _ b) λA w D=>?_;rcases A with⟨E,r,t⟩;show oQ j (G:=λu g=>K' C n f d s _ u g _) (wpAny_pyIter_dict (IT F I (DK b)) r (Ny I rfl rfl (.dict (k:=0) b (t.length.symm▸⟨_,B4 _ rfl,rfl,rfl⟩)) b))|_=>show AS j
def eS(F:Facts C){w:Ba}(i:Au C n y j w):Gy C n y o j λe f=>(w e f).bind λ(v,f)=>(Nz f v).map λ(u,g)=>(u,g,f):=λe f u g H q d s I R=>i.b q I R λV t v l r q a b k=>by show AJ (By.mp q) λp c q=>oG (AE _ q) (G:=λu g H=>wpAny _ _ _ (λN s2=>_) E0 l) (BW (eV F a k c) (λN s2 z=>z.after b) λm m q=>q)
def hP{lo a:Int}{N:Addr}(b:IsRangeIter h N lo (Builtin.Range.rangeSize lo a 1) 1):Src C f d h N (·=N) (Ia lo a) none:=.range (((rangeSize_one lo a).trans (iG (G:=(·=((a-lo).toNat:Int))) (λh=>(Int.toNat_of_nonneg (Int.sub_nonneg_of_le (D6 h))).symm) λh=>(AE Nat.cast (Int.toNat_eq_zero.mpr (Int.sub_nonpos_of_le (inl h)))).symm))▸b)
def hN(I:Inv C f d s){lo c:Int}(k:-lim<lo/\lo<lim)(l:-lim<c/\c<lim)(S:Step BO Bg Bn Db f d s.heap):wpAny (model C.prog C.w) n (pyIter (.ref s.heap.objs.size)) (λN s2=>Gz C Bg Bn Db m (Ia lo c) none f N s2) E0 {s with heap:=s.heap.push {cls:=.type "range",data:=.fields #[.int lo t,.int c B,.int 1 v]},toks:=tk}:=by show wpAny_pyIter_range (IsRange.new ..) (small_one (BE (Co _) (D6 k.1)) (Fo k.2 (Co _)) (BE (Co _) (D6 l.1)) (Fo l.2 (Co _))) ?_;have i:=I.push {cls:=.type "range",data:=.fields #[.int lo t,.int c B,.int 1 v]} (tk:=tk) (dr:=s.drawn);show Gz.after (S.trans (Step.push I.lt _)) ⟨_,_,d,rfl,i.push _,Step.push i.lt _,hP (B4 _ rfl),WK (tk:=tk) i rfl rfl,λb j=>by cases j;show BV _,trivial,.inl λa j=>j⟩ 
end
section
mutual
open A
variable(F:Facts C){m a b:Expr}{p l:Pos}{w k:Ba}(j:Au C n y a w)(c:isStar a=false)
include F j c
theorem eR(D:y.kindOf "range"=some .globalImplicit)(A:nsIn C.K mainGlobals "range"=some none)(B:bootBuiltins "range"=some (.type "range")):Gy C n y m (.Call (.Name "range" p) [a] [] l) λe f=>(w e f).bind λ(v,f)=>(intOf v).bind λi=>if-lim<i/\i<lim then some (Ia 0 i,none,f)else none:=by intro e f u g H q d s I R;show Jd (JR F I R D (by decide) A (by decide) B ?_);rw[JY c];show PySem.callWith_type rfl (Calls.evalArgs_plain (Calls.spliced_cons (j.b q I R λV Q L G O q o r E=>Calls.spliced_nil (oB q λi z q=>E.i z (G:=λv=>wpAny _ n (call _ [v]) _ E0 G) λt=>call_range_1 (oG (oT q).2 (G:=λu g H=>wpAny _ _ _ (λN s2=>_) E0 _) (hN o ⟨by decide,by decide⟩ (oT q).1 r))))))
end
end
mutual
open A
def SQ(h:Heap)(l:Addr)(m:Array Value)(c:String):Prop:=c="list_iterator"/\h.IsList l m\/c="tuple_iterator"/\IsTup h l m 
noncomputable abbrev L0(c:String)(l:Addr):Obj:={cls:=.type c,data:=.fields #[.ref l,.int 0 0]}
def SQ.keep(q:SQ h l m c)(j:∀b o,h.get? b=some o->Ch.get? b=some o):SQ Ch l m c:=by
 rcases q with⟨a,o,i,r⟩|⟨a,o,i,r⟩;·show .inl ⟨a,o,j _ _ i,r⟩
 ·show .inr ⟨a,o,j _ _ i,r⟩
def SQ.iter(q:SQ s.heap l m c)(a:Q (.ref s.heap.objs.size) {s with heap:=s.heap.push (L0 c l)}):wpAny (model b w) n (pyIter (.ref l)) Q T s:=by
 rcases q with⟨rfl,h⟩|⟨rfl,h⟩;·show Ou h a
 ·show iter_tuple h a
def SQ.si(q:SQ h l m c)(a:h.get? i=some (L0 c l)):SI h i l 0 m:=by
 rcases q with⟨rfl,h⟩|⟨rfl,h⟩;·show .inl ⟨⟨_,a,rfl,rfl⟩,h⟩
 ·show .inr ⟨⟨_,a,rfl,rfl⟩,h⟩
noncomputable abbrev SN(h:Heap)(a:String)(b:Addr):Heap:=h.push (L0 a b)
noncomputable abbrev SO(h:Heap)(a:String)(c:Addr)(b:String)(l2:Addr):Heap:=(SN h a c).push (L0 b l2)
noncomputable abbrev SP(h:Heap)(a:String)(b:Addr)(c:String)(l2:Addr):Heap:=(SO h a b c l2).push {cls:=.type "tuple",data:=.seq #[.ref h.objs.size,.ref (SN h a b).objs.size]}
noncomputable abbrev SR(h:Heap)(a:String)(c:Addr)(b:String)(l2:Addr):Heap:=(SP h a c b l2).push {cls:=.type "tuple",data:=.seq #[.none,.none]}
noncomputable abbrev Ky(h:Heap)(a:String)(c:Addr)(b:String)(l2:Addr):Heap:=(SR h a c b l2).push {cls:=.type "zip",data:=.fields #[.none,.bool false,.bool false,.ref (SO h a c b l2).objs.size,.ref (SP h a c b l2).objs.size]}
def fR(a l2)(u ys)(b c):Meets (Builtin.«zip.__new__» ⟨[.type "zip",.ref a,.ref l2],[]⟩) λi R s=>SQ s.heap a u b/\SQ s.heap l2 ys c/\R (.ok (.ret (.ref (SR s.heap b a c l2).objs.size))) {s with heap:=Ky s.heap b a c l2}:=.of_wp λv w n R s h=>by obtain⟨q,g,j,r,os⟩:=s;(show BG h λo p h=>?_;(skip));have t:=sub_zip;have l:=o;have m:SQ (Shared.heap ⟨q.push (L0 b a),g,j,r,os⟩) l2 ys c:=p.keep λi i k=>A7 _ k;wp_walk using l.iter,m.iter;show⟨_,rfl,h⟩
def kY(v:SQ s.heap a u b)(w:SQ s.heap l2 ys i)(h:∀Ch,IsZip Ch (s.heap.objs.size+4) (s.heap.objs.size+2) (s.heap.objs.size+3) .none->IsPair Ch (s.heap.objs.size+2) (.ref s.heap.objs.size) (.ref (s.heap.objs.size+1))->IsPair Ch (s.heap.objs.size+3) .none .none->SI Ch s.heap.objs.size a 0 u->SI Ch (s.heap.objs.size+1) l2 0 ys->(∀c o,s.heap.get? c=some o->Ch.get? c=some o)->Q (.ref (s.heap.objs.size+4)) {s with heap:=Ch}):wpAny (model C.prog C.w) n (call (.type "zip") [.ref a,.ref l2]) Q T s:=by
 show callType_new PySem.F.called_zip (by decide) (PySem.F.typeCall_zip_2 _ _) (PySem.F.newCall_zip_2 _ _) (λA=>PySem.F.args_object_init_3 _ _ _) PySem.F.entry_zip_new (fR a l2 u ys b i) ⟨v,w,?_⟩;have p:(SN s.heap b a).objs.size=_:=Gw ..;have q:(SO s.heap b a i l2).objs.size=s.heap.objs.size+2:=by(rewrite[Gw];show J p ?_;rfl)
 have r:(SP s.heap b a i l2).objs.size=s.heap.objs.size+3:=by(rewrite[Gw];show J q ?_;rfl)
 have z:(SR s.heap b a i l2).objs.size=s.heap.objs.size+4:=by(rewrite[Gw];show J r ?_;rfl)
 have l:(Ky s.heap b a i l2).get? _=_:=B4 _ rfl;have k:(Ky s.heap b a i l2).get? _=_:=A7 _ (B4 _ rfl);have t:(Ky s.heap b a i l2).get? _=_:=A7 _ (A7 _ (B4 _ rfl));have j:(Ky s.heap b a i l2).get? _=_:=A7 _ (A7 _ (A7 _ (B4 _ rfl)));have m:∀c o,_->(Ky s.heap b a i l2).get? c=some o:=λc o x=>A7 _ (A7 _ (A7 _ (A7 _ (A7 _ x))));rw[q,r,z]at l;rw[p,q]at t;replace k:=r▸k;replace j:=p▸j;show J z ⟨⟨_,l,rfl⟩,h _ l t k ((v.keep m).si (A7 _ (A7 _ (A7 _ (A7 _ (B4 _ rfl)))))) ((w.keep m).si j) m⟩ 
def Wm{V:V}(q:VR f d s.heap V v)(j:rowOf V=some u):∃l b c,v=.ref l/\SQ s.heap l b c/\Be f d l/\AM f d s.heap u b.toList:=by cases V with|tup r=>show q.t j (G:=λv=>∃l b c,v=.ref l/\SQ _ l b c/\Be f d l/\AM f d _ u b.toList) λa p k i m o o=>⟨a,_,_,rfl,.inr ⟨rfl,k⟩,i,m⟩|lst r=>show q.l j (G:=λv=>∃l b c,v=.ref l/\SQ _ l b c/\Be f d l/\AM f d _ u b.toList) λa p k i m o=>⟨a,_,_,rfl,.inl ⟨rfl,k⟩,i,m⟩|_=>show AS j
def ka(I:Inv C f d s)(E:SQ s.heap AC Gc M2)(m:SQ s.heap l2 Go NE)(Ix:Be f d AC)(JP:Be f d l2)(Fk:AM f d s.heap u Gc.toList)(Fs:AM f d s.heap ys Go.toList)(Fa:∃z k p,IN=.Tuple z k p):wpAny (model C.prog C.w) n (call (.type "zip") [.ref AC,.ref l2]) (λv H1=>wpAny (model C.prog C.w) n (pyIter v) (λN s2=>Gz C f d s.heap IN (Es u ys) (some (f.next,.BJ)) (f.new .BJ) N s2) E0 H1) E0 s:=by
 show kY E m λCh B Y O a b e=>wpAny_pyIter_zip B ?_;have i:∀k,s.heap.get? _=_:=λk=>by cases F:s.heap.get? (s.heap.objs.size+k)with|none=>rfl|some o=>show absurd (Ci F) (D8.mpr (A2 _ _))
 have H:=I.alloc (o:=.BJ) (l:=⟨_,_,0⟩) e (i 3) (i 3) (J O rfl) (J O rfl)
  (by constructor;·rw[Mu.Bt];show⟨_,_,O⟩
      ·rw[Mu.Bt]) (tk:=s.toks) (dr:=s.drawn);have w:Step BO f d _ (f.new .BJ) (d.new _ ⟨_,_,0⟩) Ch:=Step.alloc I.lt e (i 3) (i 3);have A:∀k,k≠3->Apart (f.new .BJ) (d.new _ ⟨s.heap.objs.size+3,s.heap.objs.size+3,0⟩) (s.heap.objs.size+k):=λk h3 h D=>by
  rcases DJ D with rfl|D;·rw[Mu.Bt];show⟨λL=>h3 (Nat.add_left_cancel L),λL=>h3 (Nat.add_left_cancel L)⟩
  ·show J (Mu.B1 _ _ (Av (I.lt h D))) ?_;show I.Eh (i k) h D
 have G:=λk=>(I.Ff (i k)).2;have y:∀{l g c},SQ s.heap l g c->Be f d l->_:=λ{l g c}q v=>by
  have:(s.heap.get? l).isSome=true:=by rcases q with⟨_,o,j,_⟩|⟨_,o,j,_⟩<;>show J j ?_<;>rfl
  show v.step w this id
 show⟨_,λx=>x=s.heap.objs.size+4\/x=s.heap.objs.size\/x=s.heap.objs.size+1,_,rfl,H,w,?_,?_,?_,?_,.inr Fa⟩;·show .zip ⟨?_,Y,a,b⟩ (by simp[St.new]) ⟨A 2 (by decide),G 2⟩ (y E Ix) (y m JP) (Av (Cq _)) (Fk.Cv w) (Fs.Cv w);rw[Mu.Bt];show B
 ·show⟨?_,?_,?_,?_,?_⟩
  ·rintro x(rfl|rfl|rfl);·show A 4 (by decide)
   ·show A 0 (by decide)
   ·show A 1 (by decide)
  ·rintro x(rfl|rfl|rfl);·show I.newOf (i 4)
   ·show I.newOf (i 0)
   ·show I.newOf (i 1)
  ·rintro x o u K(rfl|rfl|rfl)j;·rw[B]at j;(have M:=AP j;clear j;subst M);intro q;cases q
   ·show Cg a.data λQ T r t=>?_;obtain rfl:=AP (r.symm.trans j);show J t ?_;intro q;cases q
   ·show Cg b.data λQ T r t=>?_;obtain rfl:=AP (r.symm.trans j);show J t ?_;intro q;cases q
  ·rintro x(rfl|rfl|rfl);·show J B ?_;rfl
   ·show Cg a.data λQ T r t=>J r rfl
   ·show Cg b.data λQ T r t=>J r rfl
  ·rintro x(rfl|rfl|rfl);·show G 4
   ·show G 0
   ·show G 1
 ·rintro x(rfl|rfl|rfl);·show i 4
  ·show i 0
  ·show i 1
 ·show(by simp[St.new]:(f.new .BJ).objs f.next=some .BJ)
def eU(F:Facts C){w k:Ba}(Fk:∃z k p,B=.Tuple z k p)(O:Au C n y a w)(Q:Au C n y b k)(AC:isStar a=false)(Fa:isStar b=false)(Gc:y.kindOf "zip"=some .globalImplicit)(T:nsIn C.K mainGlobals "zip"=some none)(Fs:bootBuiltins "zip"=some (.type "zip")):Gy C n y B (.Call (.Name "zip" p) [a,b] [] NE) λe f=>(w e f).bind λ(x,f)=>(k e f).bind λ(A,f)=>(rowOf x).bind λu=>(rowOf A).map λys=>(Es u ys,some (f.next,.BJ),f.new .BJ):=by intro e f u g H q d s I R;show Jd (JR F I R Gc (by decide) T (by decide) Fs ?_);rw[JY AC,JY Fa];show PySem.callWith_type rfl (Calls.evalArgs_plain (Calls.spliced_cons (O.b q I R λV X M2 t Op q D l o=>Calls.spliced_cons (Q.b q D (R.step l) λW X JP s2 Ps q E m r=>Calls.spliced_nil (oB q λOk G q=>AJ (By.mp q) λOn L q=>SE (Wm (o.Cv m) G) λIx H1 Z i Y P h=>?_)))));clear o;obtain rfl:=i;show SE (Wm r L) λl2 IN Go i K S M=>?_;clear r;obtain rfl:=i;show oG (AE _ q) (G:=λu g H=>wpAny _ n _ (λv t=>wpAny _ n (pyIter v) (Gz C f d s.heap B u g H) E0 t) E0 s2) (BW (ka E Y K P S h M Fk) (λv s3 j=>BW j (λN No j=>j.after (l.trans m)) λc c q=>q) λc c q=>q)
structure Turn(C:Cx)(Y:Addr->Prop)(env:PySem.Env)(X:Addr->Prop)(it:Addr)(g:Gd)(Bg:St)(Bn:Mu)(h0:Heap)(ρ:Env)(xs:List V)(σ:St)(μ:Mu)(s:Shared):Prop where
 I:Inv C σ μ s
 R:ER C env ρ σ μ s.heap
 S:Step (λa=>Y a\/X a) Bg Bn h0 σ μ s.heap
 Q:Src C σ μ s.heap it X xs g
 O:Own C σ μ s.heap X
 g:DY σ g
variable{N:Addr}{g:Gd}{Bg:St}{Bn:Mu}{Db:Heap}{u:List V}{x:V}
def Turn.after(B:Turn C At y X N g Bg Bn Db e u f d s)(S:Step Z f d s.heap H Y M.heap)(I:Inv C H Y M)(R:ER C y Do H Y M.heap)(i:∀a,Z a->At a)(b:∀a,X a->¬Z a)(j:Ha Z d s.heap)(c:DY H g):Turn C At y X N g Bg Bn Db Do u H Y M:=⟨I,R,B.S.trans (S.weaken λa z=>.inl (i a z)),B.Q.step B.I B.O S b j c,B.O.step S b,c⟩
def Turn.next(B:Turn C At y X N g Bg Bn Db e (x::u) f d s)(D:Fv C n ow y p l)(w:H2 l X N)(A:Clear y X)(t:∀a,FX ow y a->At a)(o:∀a,X a->¬FX ow y a)(m:BP p x e=some Do){Q}(k:∀v i,wpAny (model C.prog C.w) n (letOwnedTupleGo l (.ref N) v) (λb s2=>wpAny (model C.prog C.w) n (assign l y v) (λb s3=>∃j,Turn C At y X N g Bg Bn Db Do u f j s3/\Step (λa=>FX ow y a\/X a) f d s.heap f j s3.heap) T s2) T i->Q (some v) i):wpAny (model C.prog C.w) n (pyNext (.ref N)) Q T s:=BW (ip B.I B.Q B.O w) (λr i z=>z.elim λv z=>z.1▸k v i (BW z.2 (λb s2 z=>have c:Turn C At _ X N g Bg Bn Db e u f d s2:=⟨z.1,B.R.MT z.2.1 A B.O.ok.D4,B.S.trans (z.2.1.weaken λb=>.inr),z.2.2.2.1,z.2.2.2.2,B.g⟩;have E:=z.2.1;BW (D x e Do m f d s2 v c.I c.R z.2.2.1) (λb s3 z=>z.elim λj z=>⟨j,c.after z.2.1 z.1 z.2.2 t o c.R.D4 B.g,(E.weaken λb=>.inr).trans (z.2.1.weaken λb=>.inl)⟩) λb b q=>q.elim) λb b q=>q.elim)) λb b q=>q.elim
open Classical in
def dP(L:n.handled=none)(Go:Fv C n ow y p Fa)(Fs:GI C n ow y Fk w){fl:Fl}(Gc:H2 Fa X N)(q:Cw (λx e f=>(BP p x e).bind λe=>w e f) g u e f=some (fl,Do,H))(B:Turn C (FX ow y) y X N g Bg Bn Db e u f d s)(AC:Clear y X)(O:∀a,X a->¬FX ow y a)(m:∀r M Y,Inv C H Y M->Step (λa=>FX ow y a\/X a) Bg Bn Db H Y M.heap->ER C y Do H Y M.heap->Gv H Y M.heap fl r->P (.ok r) M):codeAny (model C.prog C.w) n (.forLoop Fa (.ref N) Fk [] y) P s:=by
 obtain⟨j,I,V⟩:∃j:_->_->_,(∀u e f d s,Cw _ g u e f=_->Turn C _ _ X N g Bg Bn Db e u f d s->j u.length s)/\∀o s,j o s->∃u e f d,u.length=o/\Cw (λx e f=>(BP p x e).bind λe=>w e f) g u e f=some (fl,Do,H)/\Turn C (FX ow y) y X N g Bg Bn Db e u f d s:=⟨_,λu e f d s q B=>⟨u,e,f,d,rfl,q,B⟩,λb b z=>z⟩;have m:∀{F t i},some (F,t,i)=some (fl,Do,H)->∀r M Y,Inv C i Y M->Step (λa=>FX ow y a\/X a) Bg Bn Db i Y M.heap->ER C y t i Y M.heap->Gv i Y M.heap F r->P (.ok r) M:=λl=>by(show BG (s3 l) λG c R=>?_;clear l;subst G c R);show m
 show codeAny_forLoop_any j (λo s z=>SH (V o s z) λu e f d Ix q B=>?_) _ (I u e f d s q B);obtain rfl:=Ix;cases u with|nil=>show BW (W7 L B.I B.Q B.O) (λr Z z=>z.1▸wpAny_execs_nil (m q _ _ d z.2.1 (B.S.trans (z.2.2.weaken λa l=>.inr l)) (B.R.MT z.2.2 AC B.O.ok.D4) .next)) λb b q=>q.elim|cons x u=>show AJ (Fu.mp q) λIN c q=>?_;rcases IN with⟨S,T,h⟩;show oB c λt G c=>B.next Go Gc AC (λb z=>z) O G λv Z z=>BW z (λb s2 z=>BW z (λb s3 z=>z.elim λJP H1=>have T3:=H1.1;BW (Fs t f S T h c JP s3 T3.I T3.R) (λr K z=>H0 z λQ A E D k=>?_) λb b q=>q.elim) λb b q=>q) λb b q=>q;(try clear z);cases k with|next=>show⟨_,Cq _,I u T h Q K (oT q).2 (T3.after E A D (λb z=>z) O T3.R.D4 (oT q).1)⟩|cont=>show⟨_,Cq _,I u T h Q K (oT q).2 (T3.after E A D (λb z=>z) O T3.R.D4 (oT q).1)⟩|ret W=>show m q _ _ Q A (T3.S.trans (E.weaken λb=>.inl)) D (.ret W)
def Uu(R:ER C y e f d h)(c:FX ow y a):(h.get? a).isSome=true:=by
 rcases c with rfl|⟨x,_,i⟩;·show AJ R.loc λm l j=>?_;rcases l with⟨o,_,_,b,_⟩;show J b rfl
 ·show AV (R.cells x a i) λk j=>?_;rcases k with⟨v,o,b,_⟩;show J b rfl
def LY(R:ER C y e f d h)(i:∀b,X b->h.get? b=none):Clear y X/\∀a,X a->¬FX ow y a:=by
 show⟨⟨λz=>?_,λx c k z=>?_⟩,λa z w=>?_⟩;·have:=Uu (ow:=ow) R (.inl rfl);rw[i _ z]at this;show AX this
 ·show AV (R.cells x c k) λl m=>?_;rcases l with⟨v,o,j,_⟩;rw[i _ z]at j;show AS j
 ·have:=Uu R w;rw[i _ z]at this;show AX this
def c0(L:n.handled=none)(E:Gy C n y i j k)(G:Fv C n ow y p i)(A:GI C n ow y v w)(T:∀x,foldedSetIterable j y x=pure x):D5 C n ow y (.For i j v [] AC) λe f=>(k e f).bind λ(u,g,f)=>Cw (λx e f=>(BP p x e).bind λe=>w e f) g u e f:=λe f fl Do H q d s I R=>wpAny_For (E.go q I R λu g P N Y K a X q j l c Q O b D B=>j▸dP L G A B q ⟨l,R.step c,c.weaken λF q=>q.elim,Q,O,D⟩ (LY (ow:=ow) R b).1 (LY R b).2 λr M h m t o k=>⟨h,m,t.P' λa z=>z.imp id (b a),o,k⟩) T
end
end
mutual
open A
noncomputable def Mu.hide(d:Mu)(a:Addr):Mu:=⟨d.loc,λb=>d.A6 b\/b=a⟩
noncomputable def Mu.show(d:Mu)(E:Addr->Prop):Mu:=⟨d.loc,E⟩
end
section
mutual
open A
variable{X At E:Addr->Prop}{f m G:St}{d Y H:Mu}{s B M:Shared}{C:Cx}{A:Around}{h x D:Heap}{y:PySem.Env}{e k:Env}{ow:Str->Bool}{a:Addr}
def VR.hide(p:h.get? a=Option.none){V:V}(q:VR f d h V v):VR f (d.hide a) h V v:=q.mono (d:=d) (Y:=d.hide a) (λb o I n c w g=>⟨c,g.1,λz=>z.elim g.2 λj=>by rw[j,p]at c;show AS c⟩) (Ag _) λu u=>rfl
def AM.hide(l:h.get? a=Option.none){V}(q:AM f d h V v):AM f (d.hide a) h V v:=q.mono (d:=d) (Y:=d.hide a) (λb o t n g r i=>⟨g,i.1,λz=>z.elim i.2 λj=>by rw[j,l]at g;show AS g⟩) (Ag _) λp p=>rfl
def VR.show(L:∀b,E b->d.A6 b){V:V}(q:VR f d h V v):VR f (d.show E) h V v:=q.mono (d:=d) (Y:=d.show E) (λb o u n g p c=>⟨g,c.1,λz=>c.2 (L b z)⟩) (Ag _) λj j=>rfl
def AM.show(L:∀b,E b->d.A6 b){V}(q:AM f d h V v):AM f (d.show E) h V v:=q.mono (d:=d) (Y:=d.show E) (λb o p n i l g=>⟨i,g.1,λz=>g.2 (L b z)⟩) (Ag _) λj j=>rfl
def Inv.hide(I:Inv C f d s)(i:s.heap.get? a=none)(g:∀b o,s.heap.get? b=some o->x.get? b=some o)(L:(x.get? a).isSome=true):Inv C f (d.hide a) {s with heap:=x,toks:=tk,drawn:=dr}where
 base:=λb o c=>g b o (I.base b o c);objs:=λn o c=>OR.mono (d:=d) (λb N j O=>g b N j) rfl (λq=>(q.hide i).keeps g) (λq=>(q.hide i).keeps g) (I.objs n o c);live:=λn l=>by
  have u:∀b,(s.heap.get? b).isSome=_->(x.get? b).isSome=_:=λb c=>by show Ac (CG.mp c) λo r=>?_;show J (g b o r) ?_;rfl
  show⟨u _ (I.live n l).1,u _ (I.live n l).2⟩
 apart:=I.apart;fresh:=I.fresh;lt:=I.lt;Dj:=λn l=>by
  show AV (I.Dj n l) λv w=>AV (I.live n l) λh3 t=>⟨λz=>z.elim v λc=>?_,λz=>z.elim w λc=>?_⟩;·have p:(d.loc n).a=a:=c;rw[p,i]at h3;show AX h3
  ·have p:(d.loc n).d=a:=c;rw[p,i]at t;show AX t
 Dw:=λb j=>j.elim λz=>by show Ac (CG.mp (I.Dw b z)) λo r=>J (g b o r) ?_;rfl λc=>J c L;Dv:=λb j=>j.elim (I.Dv b) λc=>J c (I.newOf i);gens:=I.gens;os:=I.os
def Inv.show(I:Inv C f d s)(L:∀b,E b->d.A6 b):Inv C f (d.show E) s where base:=I.base;objs:=λn o i=>OR.mono (d:=d) (λb j c l=>c) rfl (λq=>q.show L) (λq=>q.show L) (I.objs n o i);live:=I.live;apart:=I.apart;fresh:=I.fresh;lt:=I.lt;Dj:=λn g=>⟨λz=>(I.Dj n g).1 (L _ z),λz=>(I.Dj n g).2 (L _ z)⟩;Dw:=λb c=>I.Dw b (L b c);Dv:=λb c=>I.Dv b (L b c);gens:=I.gens;os:=I.os
def Step.show(S:Step X f (d.hide a) h m Y x):Step X f d h m (Y.show d.A6) x where next:=S.next;mu:=S.mu;A6:=rfl;old:=S.old;new:=S.new;live:=S.live;kept:=S.kept;ep:=S.ep
def ER.hide(j:h.get? a=none)(R:ER C y e f d h):ER C y e f (d.hide a) h where
 kind:=R.kind;glob:=R.glob;blt:=R.blt;loc:=AJ R.loc λp o q=>⟨p,o,λi V b g=>(q i V b g).imp λv z=>⟨z.1,z.2.hide j⟩⟩;FT:=λi V b g=>by show Dc (R.FT i V b g) λc v l n q=>⟨c,v,l,n,q.hide j⟩
 cells:=R.cells;one:=R.one;has:=R.has;apart:=R.apart;fresh:=R.fresh
def ER.less(g:∀i V,e i=some V->k i=some V)(R:ER C y k f d h):ER C y e f d h where kind:=R.kind;glob:=R.glob;blt:=R.blt;loc:=AJ R.loc λl j q=>⟨l,j,λi V b c=>q i V (g i V b) c⟩;FT:=λi V b c=>R.FT i V (g i V b) c;cells:=R.cells;one:=R.one;has:=R.has;apart:=R.apart;fresh:=R.fresh
def Src.hide(c:h.get? a=none)(Q:Src C f d h N X u g):Src C f (d.hide a) h N X u g:=λq r t w I L=>have i:∀{b}{o},_->h.get? b=some o->_:=λv T=>⟨v.1,λz=>z.elim v.2 λj=>AS (c.symm.trans (j▸T))⟩;Q q (λl S K u p O x=>Cg p.seq λo n k G=>r _ _ _ _ p (i O k) (x.hide c)) t w I λTI Y AC F l2 n V W P R u EQ Z j B D E e y A=>Cg Z.a.seq λDo Ch m H=>Cg Z.b.seq λo2 Db s M=>L _ _ _ _ _ _ _ _ _ _ _ _ Z j (i B Z.IL) (i D m) (i E s) e (y.hide c) (A.hide c)
def Own.hide(i:h.get? a=none)(O:Own C f d h X):Own C f (d.hide a) h X:=⟨O.apart,O.fresh,O.ok,O.live,λb c z=>z.elim (O.GB b c) λg=>by have:=O.live b c;rw[g,i]at this;show AX this⟩
end
mutual
noncomputable def pvars:PT->List Nat|.nm i=>[i]|.tup b=>MN b
noncomputable def MN:List PT->List Nat|[]=>[]|p::b=>pvars p++MN b
end
mutual
def Pb:∀(p:PT)(V:V)(e k:Env),BP p V e=some k->∀j,j∉pvars p->k j=e j|.nm i,V,e,k,b,j,c=>(Ga (AP b).symm j).trans (AF λh=>c (As.mpr h))|.tup l,V,e,k,b,j,c=>oB b λg n b=>S6 l g e k b j c
def S6:∀(c:List PT)(g:List V)(e k:Env),J3 c g e=some k->∀j,j∉MN c->k j=e j|[],g,e,k,b,j,i=>Ga (AP (oT b).2).symm j|p::c,[],e,k,b,j,i=>AS b|p::c,V::g,e,k,b,j,i=>oB b λl n o=>(S6 c g l k o j λh=>i (Bx _ h)).trans (Pb p V e l n j λh=>i (CZ _ h))
end
mutual
open A
def ZV{V:V}(j:BP p V e=some k)(c:∀b,b∈pvars p->e b=none):∀i W,e i=some W->k i=some W:=by
 intro i W h;by_cases q:i∈pvars p;·rw[c i q]at h;show AS h
 ·show J (Pb p V e k j i q) ?_;show h
structure Acc(C:Cx)(env:PySem.Env)(σ:St)(μ:Mu)(h:Heap)(D:Addr)(zs:List V):Prop where
 at_:∃items,h.IsList D items/\AM σ μ h zs items.toList
 A6:μ.A6 D
 apart:Apart σ μ D
 fresh:C.h0.get? D=none
 clear:Clear env (· =D)
def Acc.step(Q:Acc C y f d h I n)(S:Step At f d h m Y x)(g:¬At I)(j:Ha At d h):Acc C y m Y x I n where
 at_:=by show AJ Q.at_ λl c i=>?_;rcases c with⟨o,b,r⟩;show⟨_,⟨o,S.kept _ o g b Q.apart,r⟩,i.step S j⟩
 A6:=J S.A6 Q.A6;apart:=by show AJ Q.at_ λl c i=>?_;rcases c with⟨o,b,r⟩;show Q.apart.step S (J b rfl) g
 fresh:=Q.fresh;clear:=Q.clear
def Acc.D4(Q:Acc C y f d h I j):Ha (·=I) d h:=λb o i n c g g=>by cases c;show Q.A6
def Yr{V:V}(i:Inv C f d s)(R:ER C y e f d s.heap)(Q:Acc C y f d s.heap I q)(N:VR f d s.heap V v)(w:q.length<lim)(L:∀B,Inv C f d B->Step (·=I) f d s.heap f d B.heap->ER C y e f d B.heap->Acc C y f d B.heap I (q++[V])->P .none B):wpAny (model C.prog C.w) A (call (.builtin "list.append") [.ref I,v]) P E0 s:=by show AJ Q.at_ λa z p=>wpAny_list_append z (λx j c=>?_) (AQ (AY (p.size)) (AQ (BH w) (E')));have g:Off f d s.heap I:=λb o h n l T u t=>u.2 (t▸Q.A6);have S:Step _ f d _ f d x:=Step.but i.lt c.extBut;have r:=i.but (tk:=s.toks) (dr:=s.drawn) Q.apart Q.fresh g (λO=>by(show AJ j λo l O=>?_;(skip));show J l ?_;rfl) c.extBut;show L _ r S (R.MT S Q.clear Q.D4) ⟨⟨_,j,J Mj ((p.but g c.extBut).append (.cons (N.but g c.extBut) .nil))⟩,Q.A6,Q.apart,Q.fresh,Q.clear⟩
abbrev H'(C:Cx)(A:Around)(y:PySem.Env)(z:List Expr)(w:Env->St->Option (Bool×St)):Prop:=Sm C A y (forIn z true λc r=>if r=true then do let b<-isTrue c y (eval c y);pure (ForInStep.yield b)else pure (ForInStep.yield r)) O2 w
def e6:H' C A y [] λc f=>some (true,f):=λe f b m q d s I R=>AW (oP q (G:=λb m=>∃Y,Inv C m Y s/\Step BO f d _ m Y _/\_=b) ⟨d,I,Step.refl _ _ _ I.lt,rfl⟩)
def e5:∀(z:List _)(s)(Q),Q false s->wpAny (model C.prog C.w) A (forIn z false λc r=>if r=true then do let g<-isTrue c y (eval c y);pure (ForInStep.yield g)else pure (ForInStep.yield r)) Q E0 s:=by intro z;induction z with|nil=>intro s Q h;show AW h|cons i z b=>intro s Q h;rw[List.forIn_cons];show AA (AW (b s Q h))
def e4(r:Dh C A y j (CX w))(L:H' C A y z g):H' C A y (j::z) λe f=>(w e f).bind λ(v,f)=>(Bb f v).bind λt=>match t with|true=>g e f|false=>some (false,f):=by showλe f b m q d s I R=>oB q λp j q=>oB q λt l q=>?_;(rewrite[List.forIn_cons];show J (AG rfl) ?_);show AA (AA (r.t (Hv j l) I R λu o N i c n=>AW ?_));clear l;cases t with|true=>cases n;show L.l q i (R.step c) c|false=>cases n;show e5 z o _ (oP q (G:=λb m=>∃Y,Inv C m Y o/\Step BO f d _ m Y _/\_=b) ⟨N,i,c,rfl⟩)
end
end
mutual
open A
noncomputable def innerOf(b:Expr)(d:List Comprehension)(f:Scope)(e:Pos)(H:Nat)(c:Value)(y:PySem.Env)(k:Sem Fin):Sem Fin:=match d[H+1]? with
 |some a=>do
  let x<-eval a.iter y
  standAt a.iter.pos let x<-if a.is_async !=0 then foldedIterable a.iter x else foldedSetIterable a.iter y x
  let _<-runOwn (.compStart (.ListComp b d f e) (H+1) (<-holding [x] (if a.is_async !=0 then asyncIter x else pyIter x)) c y) y
  k|none=>do(do let _<-call (.builtin "list.append") [c,<-eval b y])k
def compTurn_of(j:a[H]?=some ⟨h,l,k,0⟩):compTurn (.ListComp b a g f) H N d y=standAt l.pos>>=λi=>pyNext N>>=λr=>match r with|none=>pure (.done .next)|some v=>letOwnedTupleGo h N v>>=λi=>assign h y v>>=λi=>(forIn k true λc r=>if r=true then do let e<-isTrue c y (eval c y);pure (ForInStep.yield e)else pure (ForInStep.yield r))>>=λe=>if e=true then innerOf b a g f H d y (again (.compLoop (.ListComp b a g f) H N d y))else again (.compLoop (.ListComp b a g f) H N d y):=by delta compTurn innerOf;simp only[j];cases a[H+1]?<;>rfl
end
section
mutual
open A
variable{X At E:Addr->Prop}{f j o:St}{d Y M:Mu}{s l O:Shared}{C:Cx}{A:Around}{h Q m:Heap}{y:PySem.Env}{e z:Env}{ow:Str->Bool}{a I:Addr}
abbrev FD(ow:Str->Bool)(y:PySem.Env)(I:Addr):Addr->Prop:=λa=>FX ow y a\/a=I
def Oz(C:Cx)(ow:Str->Bool)(y:PySem.Env)(I:Addr)(At:Addr->Prop)(f:St)(d:Mu)(h:Heap)(e:Env)(b:List V)(j:St)(l:Shared):Prop:=∃Y,Inv C j Y l/\Step At f d h j Y l.heap/\ER C y e j Y l.heap/\Acc C y j Y l.heap I b
def Iw(C:Cx)(A:Around)(ow:Str->Bool)(y:PySem.Env)(I:Addr)(code:Sem Fin->Sem Fin)(D:List Nat)(w:Env->St->Option (List V×St)):Prop:=∀e f b j,w e f=some (b,j)->(∀i∈D,e i=none)->∀c d s,c.length+b.length<lim->Inv C f d s->ER C y e f d s.heap->Acc C y f d s.heap I c->∀k(P:Fin->Shared->Prop),(∀l,Oz C ow y I (FD ow y I) f d s.heap e (c++b) j l->wpAny (model C.prog C.w) A k P E0 l)->wpAny (model C.prog C.w) A (code k) P E0 s
def eB{w:Ba}(L:Au C A y b w)(N:G[H+1]?=none):Iw C A ow y I (innerOf b G Ch AC H (.ref I) y) D λe f=>(w e f).map λ(v,f)=>([v],f):=by intro e f M j q z O d s h i R r k P T;unfold innerOf;show J N (AA (AA (L.m q i R λV Q v E o q n g l=>AA ?_)));cases q;show Yr n (R.step g) (r.step g id λc c c c m=>m.elim) l (by show BH h) λs2 p x u t=>AW (T _ ⟨o,p,(g.weaken λc q=>q.elim).trans (x.weaken λa B=>.inr B),u,t⟩)
def Oi(p:PT)(fl:Env->St->Option (Bool×St))(b:Env->St->Option (List V×St))(e:Env):V->St->Option (List V×St):=λx f=>(BP p x e).bind λe=>(fl e f).bind λ(t,f)=>match t with|true=>b e f|false=>some ([],f)
open Classical in
def oC(q:Dr w g (x::u) f=some (r,j)){G:Prop}(k:∀i c n,w x f=some (i,c)->DY c g->Dr w g u c=some (n,j)->r=i++n->G):G:=oB q λp v q=>(oT q).2|>λB=>(By.mp B).elim λD b=>k _ _ _ v (oT q).1 (b.1.trans (AE (λt=>some (_,t)) (DQ b.2).2)) (DQ b.2).1.symm
end
section
mutual
open A
variable{b Go Ix:Expr}{IN:List Expr}{T:List Comprehension}{FM:Scope}{Do:Pos}{H:Nat}{p:PT}{D:List Nat}{fl:Env->St->Option (Bool×St)}{G:Env->St->Option (List V×St)}
  (L:A.handled=none) (H1:T[H]? =some ⟨Go,Ix,IN,0⟩) (Fk:Fv C A ow y p Go) (Fa:H' C A y IN fl) (Fs:Iw C A ow y I (innerOf b T FM Do H (.ref I) y) D G) (FS:∀i∈D,i∉pvars p)
  {N:Addr} {g:Gd} (Gc:H2 Go X N) (EQ:∀i∈pvars p++D,e i=none) (Db:Clear y X) (Ev:∀a,X a->¬FX ow y a) (Ch:¬X I)
  {Bn:Mu} {Bg:St} {v:Heap} {k ys:List V} {u:List V}
include L H1 Fk Fa Fs FS Gc EQ Db Ev Ch
theorem a5(q:Dr (Oi p fl G e) g u f=some (ys,j))(Sc:k.length+ys.length<lim)(B:Turn C (FD ow y I) y X N g Bg Bn v e u f d s)(NE:Acc C y f d s.heap I k)(No:∀l,Oz C ow y I (λa=>FD ow y I a\/X a) Bg Bn v e (k++ys) j l->P (.done .next) l)(JP:∀x r,u=x::r->∀M2 c AC d s,ys=M2++c->Dr (Oi p fl G e) g r AC=some (c,j)->Turn C (FD ow y I) y X N g Bg Bn v e r AC d s->Acc C y AC d s.heap I (k++M2)->P (.again (.compLoop (.ListComp b T FM Do) H (.ref N) (.ref I) y)) s):wpAny (model C.prog C.w) A (compTurn (.ListComp b T FM Do) H (.ref N) (.ref I) y) P E0 s:=by show J (compTurn_of H1) (AA (EI (AA ?_)));cases u with|nil=>have m:=oP q (G:=λz AC=>z=[]/\AC=f) ⟨rfl,rfl⟩;show BW (W7 L B.I B.Q B.O) (λr UF w=>w.1▸AW (No _ (m.1.symm▸m.2.symm▸(Bv k).symm▸⟨d,w.2.1,B.S.trans (w.2.2.weaken λa m=>.inr m),B.R.MT w.2.2 Db B.O.ok.D4,NE.step w.2.2 Ch B.O.ok.D4⟩))) λh h q=>q|cons x u=>have TW:¬FX ow _ I:=λw=>w.elim (λw=>NE.clear.1 w.symm) λTl=>AJ Tl λx h TE=>NE.clear.2 x I TE rfl;show oC q λM2 AC c m W K O=>oB m λPs M m=>B.next Fk Gc Db (λh=>.inl) Ev M λWp UF w=>AA (BW w (λh s2 w=>AA (BW w (λh s3 w=>w.elim λW1 On=>?_) λh h q=>q)) λh h q=>q);have T3:=On.1;have E:=NE.step On.2 (λw=>w.elim TW Ch) λa D u n w=>w.elim (B.R.D4 a D u n) (B.O.ok.D4 a D u n);have sub:=ZV M λT0 Rs=>EQ T0 (CZ _ Rs);show AA (Fa.b m T3.I T3.R λt Re z Ok Op m Q o V=>?_);cases t with|false=>cases V;show J (AF HL) ?_;have S:=oP m (G:=λz AC=>z=[]/\AC=Re) ⟨rfl,rfl⟩;show AV S λUf WF=>?_;(try clear S);clear m;obtain rfl:=Uf;obtain rfl:=WF;have Y:=T3.after o Q (T3.R.step o) (λh w=>w.elim) (λh h w=>w) (λh h h h w=>w.elim) W;show AW (JP x u rfl [] c _ Op Ok O K {Y with R:=Y.R.less sub} ((Bv k).symm▸E.step o id λh h h h w=>w.elim))|true=>cases V;show J (AG rfl) (Fs Ps Re M2 AC m (λi Z=>(Pb p x e Ps M i (FS i Z)).trans (EQ i (Bx _ Z))) k Op Ok (by have:=AE List.length O;simp at this;show Ai (EJ (AQ (A2 _ _) (AY this.symm)) _) Sc) Q (T3.R.step o) (E.step o id λh h h h w=>w.elim) _ _ λUV w=>w.elim λWP w=>?_);have F:=T3.after ((o.weaken λa m=>m.elim).trans w.2.1) w.1 w.2.2.1 (λh w=>w) (λa JP w=>w.elim (Ev a JP) λm=>Ch (m▸JP)) (λa D u n w Tk No=>w.elim (λw=>T3.R.D4 a D u n w Tk No) λm=>m▸E.A6) W;show AW (JP x u rfl M2 c AC WP UV O K {F with R:=F.R.less sub} w.2.2.2)
def Xm(C:Cx)(W:Addr->Prop)(y:PySem.Env)(X:Addr->Prop)(N:Addr)(g:Gd)(Bg:St)(Bn:Mu)(v:Heap)(e:Env)(I:Addr)(k:List V)(t:List V->St->List V->Prop)(n:Nat)(s:Shared):Prop:=∃u f d i c,u.length=n/\t u f c/\k=i++c/\Turn C W y X N g Bg Bn v e u f d s/\Acc C y f d s.heap I i
theorem Tn(q:Dr (Oi p fl G e) g u f=some (ys,j))(JP:k.length+ys.length<lim)(B:Turn C (FD ow y I) y X N g Bg Bn v e u f d s)(i:Acc C y f d s.heap I k)(AC:∀w l,Oz C ow y I (λa=>FD ow y I a\/X a) Bg Bn v e (k++ys) j l->P (.ok w) l):codeAny (model C.prog C.w) A (.compLoop (.ListComp b T FM Do) H (.ref N) (.ref I) y) P s:=by show codeAny_loop rfl (Xm C (FD ow y I) y X N g Bg Bn v e I (k++ys) λu f m=>Dr (Oi p fl G e) g u f=some (m,j)) (λn s c=>kS c λu f d Y m M q t B i=>?_) _ ⟨u,f,d,k,ys,rfl,q,rfl,B,i⟩;(try clear c);obtain rfl:=M;show wpAny_noted (BW (a5 L H1 Fk Fa Fs FS Gc EQ Db Ev Ch q (by have:=AE List.length t;simp at this;show Ai (AY this.symm) JP) B i (λl c=>AC _ l (t▸c)) λx r z Q E O d s D q B o=>⟨rfl,_,z▸Cq _,r,O,d,_,E,rfl,q,by(show J t ?_;show J D ?_;rewrite[DN];rfl),B,o⟩) (λh h q=>q) λh h q=>q.elim)
end
end
end
section
mutual
open A
variable{a:Program}{w:World}{b:Around}{T:Value->Shared->Prop}{s:Shared}
def fm(h:Q {scope,locals:=s.heap.objs.size,globals,cells:=cellsFrom (s.heap.objs.size+1) scope.names cl,qual,func:=none,code:=outer.code,frame:=outer.frame,builtins:=outer.builtins} {s with heap:=pushCells (s.heap.push {cls:=.type "dict",data:=.dict #[]}) scope.names}):wpAny (model a w) b (newFunctionEnv scope globals cl [] qual none .none (some outer)) Q T s:=AA (wpAny_alloc (AA (wpAny_layCells _ λe d cells=>by cases c:d==_<;>simp[c] _ _ _ _ (J (Gw ..) (AA (AW (AW h)))))))
noncomputable def Ei(y:PySem.Env):List (Str×NameKind)->List (Str×Addr)->List (Str×Addr)|[],c=>c|(n,k)::r,c=>if k==.free then Ei y r ((n,(y.cells.lookup n).getD 0)::c)else Ei y r c
def NF(h:(k==.free)=true):Ei y ((A,k)::r) c=Ei y r ((A,(y.cells.lookup A).getD 0)::c):=AG h
def ND(h:¬(k==.free)=true):Ei y ((A,k)::r) c=Ei y r c:=AF h
def ak(g)(h:∀x∈g.names,x.2=.free->(y.cells.lookup x.1).isSome=true):closureFor g y=pure (Ei y g.names []):=by show(AE (λm:_=>m>>=_) ((?_:∀(f)(d),(∀x∈f,x.2=.free->(y.cells.lookup x.1).isSome=_)->forIn f d _=pure _) g.names [] h)).trans rfl;intro f;induction f with|nil=>showλd t=>rfl|cons p f r=>
  obtain⟨n,k⟩:=p;intro d l;rw[List.forIn_cons];dsimp only;have j:=λd=>r d λx q=>l x (Ah _ q);by_cases e:(k==NameKind.free)=true
  ·show Ac (CG.mp (l _ AR (eq_of_beq e))) λc i=>?_;have o:cellOf y n=pure c:=by unfold cellOf;show J i rfl
   rw[AG e,o,NF e,i];show j _
  ·rw[AF e,ND e];show j _
def JB:∀(d)(n)(c),cellsFrom n d c=cellsFrom n d []++c:=by intro d;induction d with|nil=>intro f c;show rfl|cons f r e=>
  obtain⟨x,k⟩:=f;intro n c;unfold cellsFrom;split;·show J (e _ _) (J (e _ [_]) ?_);rewrite[DN];rfl
  ·show e n _
def TY:∀(d)(n)(x)(c),(x,c)∈cellsFrom n d []->(x,NameKind.cell)∈d:=by intro d;induction d with|nil=>intro f x c h;(cases h)|cons f r e=>
  obtain⟨y,k⟩:=f;intro n x c h;unfold cellsFrom at h;split at h
  ·rename_i g;rw[JB]at h;rcases Cp.mp h with h|h;·show Ah _ (e _ x c h)
   ·rw[As]at h;cases h;have:=by simpa using g
    show J this ?_;show AR
  ·show Ah _ (e _ x c h)
def NA(f):∀(n)(x),(x,NameKind.cell)∈f->∃c,(x,c)∈cellsFrom n f []:=by induction f with|nil=>showλn x h=>absurd h Cu|cons p r g=>
  obtain⟨y,k⟩:=p;intro n x h;show(?_:∃c,_∈if(k==_)=_ then _ else cellsFrom n r []);by_cases d:(k==.cell)=true;·show J (AG d) (J (JB r _ _) ((BU.mp h).elim (λe=>⟨n,Bx _ (As.mpr (AE (·,n) (DQ e).1))⟩) λh=>(g _ x h).imp λc=>CZ _))
  ·show J (AF d) (g n x ((BU.mp h).resolve_left λe=>d ((DQ e).2▸rfl)))
def Pz(g):∀(d)(x)(c),(x,c)∈Ei y g d->(x,c)∈d\/(x,NameKind.free)∈g/\c=(y.cells.lookup x).getD 0:=by induction g with|nil=>showλd x c=>.inl|cons p r i=>
  obtain⟨l,k⟩:=p;intro d x c h;have j:=And.imp (c:=(x,NameKind.free)∈(l,k)::r) (d:=c=(y.cells.lookup x).getD 0) (Ah _) id;by_cases f:(k==.free)=true;·show(i _ x c (NF f▸h)).elim (λh=>(BU.mp h).elim (λe=>.inr ?_) .inl) λh=>.inr (j h);have e:=DQ e;show⟨e.1.symm▸eq_of_beq f▸AR,e.1.symm▸e.2⟩
  ·show(i _ x c (ND f▸h)).imp id j
def ai(f):∀(c)(p),p∈c->p∈Ei y f c:=by induction f with|nil=>showλc p h=>h|cons p r e=>
  obtain⟨g,k⟩:=p;intro c p h;by_cases d:(k==.free)=true;·show J (NF d) (e _ p (Ah _ h))
  ·show J (ND d) (e _ p h)
def Te(f):∀(c)(x),(x,NameKind.free)∈f->(x,(y.cells.lookup x).getD 0)∈Ei y f c:=by induction f with|nil=>showλc x h=>absurd h Cu|cons p r g=>
  obtain⟨i,k⟩:=p;intro c x h;show(?_:_∈if(k==_)=_ then _ else Ei _ r _);by_cases d:(k==.free)=true;·show J (AG d) ((BU.mp h).elim (λe=>ai r _ _ ((DQ e).1▸AR)) (g _ x))
  ·show J (AF d) (g _ x ((BU.mp h).resolve_left λe=>d ((DQ e).2▸rfl)))
def aj(P:_->_)(B:∀x A,P x->P A->(y.cells.lookup x).getD 0=(y.cells.lookup A).getD 0->x=A)(g):∀(d),(g.map (·.1)).Nodup->(∀x∈g,x.2=.free->P x.1)->(∀p∈d,P p.1/\p.2=(y.cells.lookup p.1).getD 0/\p.1∉g.map (·.1))->d.Pairwise (λx A=>x.2≠A.2)->(Ei y g d).Pairwise λx A=>x.2≠A.2:=by induction g with|nil=>showλd v v v h=>h|cons p r t=>
  obtain⟨A,k⟩:=p;intro d f n c h;have f:=DO.mp f;have m:∀p∈_,_/\_/\_:=λp j=>⟨(c p j).1,(c p j).2.1,λz=>(c p j).2.2 (Ah _ z)⟩;have o:=λx C=>n x (Ah _ C);by_cases i:(k==.free)=true;·have u:=n _ AR (eq_of_beq i);show J (NF i) (t _ f.2 o (Bo.mpr ⟨⟨u,rfl,f.1⟩,m⟩) (Jv.mpr ⟨λq l e=>(c q l).2.2 (B A _ u (c q l).1 (e.trans (c q l).2.1)▸AR),h⟩))
  ·show J (ND i) (t _ f.2 o m h)
def L3{c:Type}{x:Str}{v:c}{l}:((x,v)::l).lookup x=some v:=by simp
def L4{c:Type}{x:Str}{v:c}{l}(h:A≠x):((x,v)::l).lookup A=l.lookup A:=by rw[List.lookup_cons,I9.mpr h]
def Vf:(relabel d y).names.lookup x=(d.names.lookup x).map λk=>if k==.free&&y.scope.kind==.function&&y.kindOf x==some .cell then NameKind.cell else k:=by unfold relabel;induction d.names with|nil=>rfl|cons p r e=>
  obtain⟨n,k⟩:=p;show(?_:((if(_&&_)=_ then _ else _)::_).lookup x=_);show J (apply_ite (Prod.mk n) _ _ _).symm ?_;by_cases c:x=n;·subst c;show J (L3 (v:=k)) L3
  ·show(L4 c).trans (e.trans (AE _ (L4 c).symm))
def lookup_mem{f:Type}{l:List _}{x:Str}{k:f}:(x,k)∈l->(l.map (·.1)).Nodup->l.lookup x=some k:=by induction l with|nil=>showλh=>absurd h Cu|cons p r d=>obtain⟨y,j⟩:=p;showλh c=>(BU.mp h).elim (λe=>(DQ e).1▸(DQ e).2▸L3) λh=>(L4 λe=>(DO.mp c).1 (Ar.mpr ⟨_,h,e⟩)).trans (d h (DO.mp c).2)
end
end
section
mutual
open A
variable{X At E:Addr->Prop}{f n j:St}{d Y m:Mu}{s l p:Shared}{C:Cx}{q:Around}{h g i:Heap}{y:PySem.Env}{e k:Env}{ow:Str->Bool}{a I:Addr}
structure PK(C:Cx)(env:PySem.Env)(scope:Scope)(vars:List Nat):Prop where
 kind:scope.kind=.function
 nodup:(scope.names.map (·.1)).Nodup
 free:∀x∈scope.names,x.2=.free->env.kindOf x.1=some .cell
 own:∀x∈scope.names,x.2=.local\/x.2=.cell->∃i∈vars,x.1=C.nm i
def EA(scope:Scope)(y:PySem.Env)(M:Addr):PySem.Env:={scope:=relabel scope y,locals:=M,globals:=y.globals,cells:=cellsFrom (M+1) scope.names (Ei y scope.names []),qual:=y.qual,func:=none,code:=y.code,frame:=y.frame,builtins:=y.builtins}
noncomputable def Hc(b:Scope)(x:Str):Bool:=b.names.lookup x==some .cell
def az(AC:Inv C f d s)(R:ER C y e f d s.heap)(K:PK C y B r)(L:g=pushCells (s.heap.push {cls:=.type "dict",data:=.dict #[]}) B.names):(∀b o,s.heap.get? b=some o->g.get? b=some o)/\ER C (EA B y s.heap.objs.size) (clear e r) f d g/\(∀b,FX (Hc B) (EA B y s.heap.objs.size) b->s.heap.get? b=none)/\∀x c,(x,c)∈(EA B y s.heap.objs.size).cells->s.heap.get? c=none\/∃A,(A,c)∈y.cells:=by
 subst L;have n:∀b o,_->(pushCells (s.heap.push {cls:=.type "dict",data:=.dict #[]}) B.names).get? b=_:=λb o u=>pushCells_keeps _ _ b o (A7 _ u);have a:=cellsFrom_ok B.names (s.heap.push {cls:=.type "dict",data:=.dict #[]}) _ [] ⟨λFk Fk t=>(by cases t),List.Pairwise.nil⟩ (by show Ag _);rw[Gw]at a;have E:∀b,_->s.heap.get? b=_:=λb P=>by cases w:s.heap.get? b with|none=>rfl|some o=>show absurd (Ci w) (D8.mpr P)
 have l:=λx H=>CG.mp (R.has x H);have Ev:∀x c,(x,c)∈(EA B y s.heap.objs.size).cells->(x,c)∈cellsFrom (s.heap.objs.size+1) B.names []\/(x,NameKind.free)∈B.names/\y.cells.lookup x=some c:=by
  intro x c t;have Q:_∈cellsFrom _ _ _:=t;rw[JB]at Q;rcases Cp.mp Q with Q|Q;·show .inl Q
  ·rcases Pz _ _ _ _ Q with Q|⟨G,z⟩;·cases Q
   ·show Ac (l x (K.free _ G rfl)) λI m=>.inr ⟨G,J z (J m rfl)⟩
 have q:∀x p,(EA B y s.heap.objs.size).kindOf x=some p->∃N,(x,N)∈B.names/\(N=.free/\p=.cell\/N≠.free/\p=N):=by
  intro x p H;have FS:(relabel _ _).names.lookup x=_:=H;rw[Vf]at FS;show AJ (By.mp FS) λN G z=>?_;have t:=mem_of_lookup G;show⟨N,t,?_⟩;by_cases S:N=.free;·subst S;have:=K.free _ t rfl;rw[AG (J R.kind (J this rfl))]at z;show .inl ⟨rfl,z.symm⟩
  ·rw[AF (by simp[S])]at z;show .inr ⟨S,z.symm⟩
 have Fa:∀M V,clear e r M=some V->M∉r/\e M=some V:=by
  intro M V u;unfold clear at u;split at u;·show AS u
  ·rename_i w;show⟨w,u⟩
 show⟨n,⟨K.kind,R.glob,R.blt,⟨_,(Heap.Ns.new _ _).keeps (pushCells_keeps _ _),λM V u H1=>?_⟩,λM V u D=>?_,λx c t=>?_,?_,λx H=>?_,AC.Eh (BV _),AC.newOf (BV _)⟩,λb P=>?_,λx c t=>(Ev x c t).imp (λt=>E c (Nat.le_of_succ_le (a.empty x c t).2)) λt=>⟨x,mem_of_lookup t.2⟩⟩
 ·show AV (Fa M V u) λCh u=>AJ (q _ _ H1) λN t w=>?_;rcases w with⟨_,w⟩|⟨_,rfl⟩;·cases w
  ·show AJ (K.own _ t (.inl rfl)) λIx W Y=>absurd (C.inj _ _ Y▸W) Ch
 ·show AV (Fa M V u) λCh u=>?_;have EQ:(C.nm M,NameKind.free)∈B.names:=by
   rcases D with D|D
   ·show AJ (q _ _ D) λN t w=>?_;rcases w with⟨rfl,_⟩|⟨_,rfl⟩;·show t
    ·show AJ (K.own _ t (.inr rfl)) λIx W Y=>absurd (C.inj _ _ Y▸W) Ch
   ·show AJ (q _ _ D) λN t w=>?_;rcases w with⟨_,w⟩|⟨M2,NE⟩;·cases w
    ·show absurd NE.symm M2
  show Dc (R.FT M V u (.inl (K.free _ EQ rfl))) λc v G z h3=>⟨c,v,?_,z.keeps n,h3.keeps n⟩;have JP:(cellsFrom (s.heap.objs.size+1) B.names []).lookup (C.nm M)=none:=by cases w:(cellsFrom _ _ []).lookup _ with|none=>rfl|some I=>have j:=lookup_mem (TY _ _ _ _ (mem_of_lookup w)) K.nodup;replace j:=lookup_mem EQ K.nodup▸j;cases j
  show(?_:(cellsFrom _ _ _).lookup _=_);(rewrite[JB];show J List.lookup_append ?_;show J JP ?_;show J Option.none_or ?_);have Gc:=Te (y:=y) _ [] _ EQ;cases w:(Ei _ _ []).lookup _ with
  |none=>
   have:∀{O:List _}{x:Str}{c:Addr},(x,c)∈O->O.lookup x≠none:=by intro O;induction O with|nil=>intro x c h;cases h|cons i O Do=>
     obtain⟨A,Fs⟩:=i;intro x c h;show J List.lookup_cons ?_;by_cases T:x==A;·show J T ?_;simp
     ·have Db:(x==A)=false:=by simpa using T
      show J Db ?_;rcases BU.mp h with u|h;·cases u;simp at T
      ·show Do h
   show absurd w (this Gc)|some I=>
   rcases Pz _ _ _ _ (mem_of_lookup w)with k|⟨_,k⟩;·cases k
   ·rw[G]at k;show J k ?_;rfl
 ·rcases Ev x c t with t|⟨_,t⟩;·show AV (a.empty x c t) λG z=>⟨⟨_,G⟩,AC.Eh (E c (AQ (A1 _) z)),AC.newOf (E c (AQ (A1 _) z)),Dd z⟩
  ·show CW (R.cells x c (mem_of_lookup t)) λFM z h3 F=>?_;rcases FM with⟨v,G⟩;show⟨⟨v,G.keeps n⟩,z,h3,Av G.lt⟩
 ·show(?_:(cellsFrom _ _ _).Pairwise _);rw[JB,List.pairwise_append];show⟨a.apart,aj (λx=>y.kindOf x=_) (λx A H IN u=>?_) _ [] K.nodup K.free (λi X=>by cases X) List.Pairwise.nil,λi X w Z u=>?_⟩;·show Ac (l x H) λc D=>Ac (l A IN) λI m=>?_;rw[D,m]at u;subst u;show name_of_addr R.one (mem_of_lookup D) (mem_of_lookup m)
  ·show AV (a.empty _ _ X) λG z=>?_;rcases Pz _ _ _ _ Z with Z|⟨h3,F⟩;·cases Z
   ·show Ac (l w.1 (K.free _ h3 rfl)) λc D=>?_;rw[D]at F;show AV (R.cells _ c (mem_of_lookup D)) λFM Fk=>?_;rcases FM with⟨v,j⟩;have Go:i.2=c:=Eq.trans u F;rw[Go]at z;show absurd j.lt (D8.mpr (Nat.le_of_succ_le z))
 ·show AJ (q _ _ H) λN t w=>?_;have:∃c,(x,c)∈cellsFrom (s.heap.objs.size+1) B.names (Ei y B.names []):=by
   rw[JB];rcases w with⟨rfl,_⟩|⟨_,rfl⟩;·show⟨_,Bx _ (Te _ _ _ t)⟩
   ·show Ac (NA _ _ x t) λc D=>⟨c,CZ _ D⟩
  show Ac this λc D=>(by intro O;induction O with|nil=>intro x c h;cases h|cons i O Do=>
    obtain⟨A,Fs⟩:=i;intro x c h;show J List.lookup_cons ?_;by_cases T:x==A;·show J T ?_;rfl
    ·have Db:(x==A)=false:=by simpa using T
     show J Db ?_;rcases BU.mp h with u|h;·cases u;simp at T
     ·show Do h:∀{O:List (Str×Addr)}{x:Str}{c:Addr},(x,c)∈O->(O.lookup x).isSome=true) D
 ·rcases P with rfl|⟨x,H,t⟩;·show BV _
  ·rcases Ev x b t with t|⟨t,_⟩;·show E b (by have:=(a.empty x b t).2;show AQ (A1 _) this)
   ·skip;unfold Hc at H;rw[lookup_mem t K.nodup]at H;show AX H
end
end
section
mutual
open A
variable{X At Z E:Addr->Prop}{f l w:St}{d Y G:Mu}{s j n:Shared}{C:Cx}{A:Around}{h c v:Heap}{y:PySem.Env}{e z:Env}{ow:Str->Bool}{a I:Addr}
def Src.keeps(i:∀b o,h.get? b=some o->c.get? b=some o)(Q:Src C f d h N X u g):Src C f d c N X u g:=λM a b r t m=>Q M (λI k y u L D O=>a _ _ _ _ (L.keep (i _) (i _)) D (O.keeps i)) (λq k u m p=>b _ _ _ m (p.imp λo=>And.imp (i _ o) id)) (λq k s F m p=>r _ _ _ _ m (p.imp λo=>And.imp (i _ o) id)) (λx q p=>t _ _ (i _ _ p)) λTI v Y w l2 q E G z A u K Z B j l n H T e=>m _ _ _ _ _ _ _ _ _ _ _ _ ⟨i _ _ Z.hz,i _ _ Z.IL,Z.a.keep (i _) (i _),Z.b.keep (i _) (i _)⟩ B j l n H (T.keeps i) (e.keeps i)
def Own.keeps(m:∀b o,h.get? b=some o->c.get? b=some o)(O:Own C f d h X):Own C f d c X where
 apart:=O.apart;fresh:=O.fresh;ok:=λb o r q g p=>by show Ac (CG.mp (O.live b g)) λk i=>?_;obtain rfl:=AP ((m b k i).symm.trans p);show O.ok b k r q g i
 live:=λb g=>by show Ac (CG.mp (O.live b g)) λk i=>?_;show J (m b k i) ?_;rfl
 GB:=O.GB
def W8(Q:Src C f d s.heap N X u g)(h:P (.ref N) s):wpAny (model C.prog C.w) A (pyIter (.ref N)) P T s:=Q (λb b b=>_) (λq k p u o b b=>o.elim (λm=>wpAny_pyIter_listiter m.1 h) λm=>wpAny_pyIter_tupleiter m.1 h) (λb b b b i=>wpAny_pyIter_listiter i h) (λb b b b b i=>wpAny_pyIter_keyiter i h) (λb b i=>wpAny_pyIter_rangeiter i h) λb b b b b b b b b b b b Z b b b b b b b=>wpAny_pyIter_zip Z.hz h
def Tp(q:i[H]?=some ⟨x,t,r,0⟩)(Q:Src C f d s.heap N X u g)(h:codeAny (model C.prog C.w) A (.compLoop (.ListComp b i m k) H (.ref N) o y) R s):codeAny (model C.prog C.w) A (.compStart (.ListComp b i m k) H (.ref N) o y) R s:=by
 show codeAny_of_tree (wpAny_notedAt ?_);unfold compStart;have p:clausesOf (.ListComp b _ m k)=i:=rfl;simp only[p,q];show AA (Je (wpAny_ite ?_));split;·first|show AA (AW (AW (And.intro rfl h)))|show AW (And.intro rfl h)
 ·first|show AA (Gp (AA (EI (AA (W8 Q (AW (And.intro rfl h)))))))|(show AA (Gp ?_);show AA (EI (AA (W8 Q (AW (And.intro rfl h))))))
def eC{fl}(L:A.handled=none)(N:AC[H+1]?=some ⟨Db,Ch,Fs,0⟩)(FM:Gy C A y Db Ch k)(Fk:∀x,foldedSetIterable Ch y x=pure x)(Fa:Fv C A ow y p Db)(FS:H' C A y Fs fl)(Ev:Iw C A ow y I (innerOf b AC Go Gc (H+1) (.ref I) y) D Do)(EQ:∀i∈D,i∉pvars p):Iw C A ow y I (innerOf b AC Go Gc H (.ref I) y) (pvars p++D) λe f=>(k e f).bind λ(u,g,f)=>Dr (λx f=>(BP p x e).bind λe=>(fl e f).bind λ(t,f)=>match t with|true=>Do e f|false=>some ([],f)) g u f:=by
 intro e f Op l q W Ps d s K j R c No P F;unfold innerOf;show J N (AJ (Fu.mp q) λZ E q=>?_);rcases Z with⟨u,g,Rs⟩;show AA (BW (FM e f _ _ _ E d s j R) (λOn Ok m=>AA (EI ?_)) λr r q=>q);rw[Fk];show AA (AW (AA (Cs (BW m (λM2 s2 m=>SF m λa X Re IN T M Q O B Y G=>?_) λr r q=>q))));(try clear m);obtain rfl:=IN;have h:(s.heap.get? I).isSome=true:=by(show AJ c.at_ λNE H1 r=>?_;rcases H1 with⟨o,S,_⟩);show J S ?_;rfl
 show AA (wpAny_runOwn (Tp N Q (Tn L N Fa FS Ev EQ G W (LY (ow:=ow) R B).1 (LY R B).2 (λm=>by rw[B I m]at h;show AX h) q K ⟨T,R.step M,Step.refl _ _ _ T.lt,Q,O,Y⟩ (c.step M id λr r r r m=>m.elim) λJP s3 V=>H0 V λIx n z w v=>F s3 ⟨Ix,n,((M.weaken λr q=>q.elim).trans z).P' λa m=>m.imp id (B a),w,v⟩)))
structure CompEnd(C:Cx)(σ:St)(μ:Mu)(h:Heap)(vs:List V)(FJ:St)(D L:Addr)(s':Shared):Prop where
 ex:∃FI,Inv C FJ FI s'/\Step BO σ μ h FJ FI s'.heap/\VR FJ FI s'.heap (.lst vs) (.ref D)/\Apart FJ FI L/\¬FI.A6 L
 ns:∃m,s'.heap.Ns L m
 new:h.get? L=none
 fresh:C.h0.get? L=none
 ne:D≠L
def CompEnd.letGo(Q:CompEnd C f d h D l I M j)(g:Heap.SameBut M j.heap c):Ab C f d h (.lst D) l (.ref I) {j with heap:=c}:=by
 show Ow Q.ex λp i S q r H=>SH Q.ns λm o T O x u L=>?_;have k:Off l p _ M:=Off.of λn s e B b=>by obtain rfl:=AP (x.symm.trans B);replace b:=u▸b;cases b
 show⟨p,i.but r Q.fresh k (λN=>absurd N H) g.extBut,((S.weaken λL q=>q.elim).trans (Step.but i.lt g.extBut)).drop λa t=>t▸Q.new,q.but k g.extBut⟩
def Th{fl}(L:A.handled=none)(K:PK C y AC r)(ce:Gy C A y Do Db k)(ck:∀x,foldedSetIterable Db y x=pure x)(ci:∀M,Fv C A (Hc AC) (EA AC y M) p Do)(Fk:∀M,H' C A (EA AC y M) Go fl)(cc:∀M I,Iw C A (Hc AC) (EA AC y M) I (innerOf b (⟨Do,Db,Go,0⟩::T0) AC Tl 0 (.ref I) (EA AC y M)) D am)(be:∀i∈D,i∉pvars p)(dL:∀i∈pvars p++D,i∈r)(al:k e f=some (u,g,T))(q:Dr (λx f=>(BP p x (clear e r)).bind λe=>(fl e f).bind λ(t,f)=>match t with|true=>am e f|false=>some ([],f)) g u T=some (ys,l))(Sc:ys.length<lim)(Wp:Inv C f d s)(R:ER C y e f d s.heap)(Ps:∀I M j,CompEnd C f d s.heap ys l I M j->match UV with|none=>∀c,Heap.SameBut M j.heap c->P (.ref I) {j with heap:=c}|some B=>wpAny (model C.prog C.w) A (B (.ref I)) (λCh n=>∃m,n.heap.Ns M m/\∀c,Heap.SameBut M n.heap c->P .none {n with heap:=c}) E0 j):wpAny (model C.prog C.w) A (comprehension (.ListComp b (⟨Do,Db,Go,0⟩::T0) AC Tl) AC y (firstIterPos (⟨Do,Db,Go,0⟩::T0) Tl) (newList []) false (eval Db y) UV) P E0 s:=by
 have bd:=ak _ λx Gc bv=>R.has _ (K.free x Gc bv);show wpAny_comprehension_free rfl ck bd K.kind (λx Gc Fk=>Fk▸lookup_mem Gc K.nodup) (BW (ce e f _ _ _ al d s Wp R) (λUf ii N=>BW N (λgd s2 N=>SF N λa X f4 f2 G Z Q O TE ca a2=>?_) λCh Ch q=>q) λCh Ch q=>q);(try clear N);obtain rfl:=f2;show Kv ?_;have No:=R.step Z;have z:s2.heap.get? _=_:=BV _;have E:∀H o,_->(s2.heap.push {cls:=.type "list",data:=.seq ([]).toArray}).get? H=some o:=λCh Ch h=>A7 _ h;have Ev:(s2.heap.push {cls:=.type "list",data:=.seq ([]:List Value).toArray}).get? _=_:=B4 _ rfl;have V:=G.hide (tk:=s2.toks) (dr:=s2.drawn) z E (J Ev rfl);have X0:=(No.hide z).step (Step.keeps G.lt E);show fm (CW (az V X0 K rfl) λFa ZB Re Rs=>?_);have JP:=V.keeps (tk:=s2.toks) (dr:=s2.drawn) Fa;have FS:=λH o h=>Fa H o (E H o h);have M2:=(Q.hide z).keeps FS;have Ix:s2.heap.objs.size≠(s2.heap.push {cls:=.type "list",data:=.seq ([]).toArray}).objs.size:=by rw[Gw];show Av (Cq _)
 have f0:=λH h=>Z.live H id h;have Ok:∀H,s2.heap.get? H=none->s.heap.get? H=_:=λH h=>by cases N:s.heap.get? H with|none=>rfl|some o=>have:=f0 H (J N rfl);rw[h]at this;show AX this
 have On:∀H,(s2.heap.push _).get? H=_->_:=λH h=>Ok H (by cases N:s2.heap.get? H with|none=>rfl|some o=>rw[E H o N]at h;show h);have ar:∀x Y,(x,Y)∈(EA _ _ _).cells->Y≠s2.heap.objs.size:=λx Y Fs h=>by
  subst h;rcases Rs x _ Fs with N|⟨H1,N⟩;·rw[Ev]at N;show Ce N
  ·show AV (No.cells H1 _ N) λIN Ch=>?_;rcases IN with⟨Uf,o,w,_⟩;rw[z]at w;show AS w
 have XV:Acc C (EA AC y (s2.heap.push {cls:=.type "list",data:=.seq ([]).toArray}).objs.size) T (f4.hide s2.heap.objs.size) (pushCells ((s2.heap.push {cls:=.type "list",data:=.seq ([]).toArray}).push {cls:=.type "dict",data:=.dict #[]}) AC.names) s2.heap.objs.size []:=by show⟨⟨_,⟨_,Fa _ _ Ev,rfl,_,rfl⟩,.nil⟩,.inr rfl,G.Eh z,G.newOf z,λh=>Ix h.symm,ar⟩
 have S:=O.live;have ac:Clear (EA AC y (s2.heap.push {cls:=.type "list",data:=.seq ([]).toArray}).objs.size) X:=by
  show⟨λN=>?_,λx Y Fs N=>?_⟩;·have:=S _ N;show Ac (CG.mp this) λo w=>?_;have ap:(s2.heap.push {cls:=.type "list",data:=.seq ([]:List Value).toArray}).get? _=_:=BV _;have h3:(s2.heap.push _).get? (s2.heap.push _).objs.size=_:=E _ _ w;rw[ap]at h3;show AS h3
  ·rcases Rs x Y Fs with h|⟨H1,ds⟩;·show Ac (CG.mp (S _ N)) λo w=>?_;have Op:=h;rw[E _ _ w]at Op;show Ce Op
   ·show AV (R.cells H1 Y ds) λIN Ch=>?_;rcases IN with⟨Uf,o,w,_⟩;rw[TE _ N]at w;show AS w
 have a1:∀H,X H->¬_:=λH v N=>by show Ac (CG.mp (S _ v)) λo w=>?_;have:=Re H N;have h3:=this;rw[E _ _ w]at h3;show Ce h3
 show Tp rfl M2 (Tn L rfl (ci _) (Fk _) (cc _ _) be a2 (λi cd=>AG (dL i cd)) ac a1 (λN=>by have:=S _ N;rw[z]at this;show AX this) q (by simpa using Sc) ⟨JP,ZB,Step.refl _ _ _ JP.lt,M2,(O.hide z).keeps FS,ca⟩ XV λf8 UF N=>?_)
 ·show H0 N λWF W1 EQ W NE=>?_;have FM:∀H,_->WF.A6 H:=λH v=>J EQ.A6 (.inl v);show AJ NE.at_ λh4 ch db=>AJ W.loc λTk TW Ch=>?_;have f1:¬WF.A6 _:=λN=>by rw[EQ.A6]at N;show(V.Ff (BV _)).2 N
  have WP:CompEnd C f d s.heap ys l s2.heap.objs.size (s2.heap.push {cls:=.type "list",data:=.seq ([]).toArray}).objs.size UF:=by
   show⟨⟨_,W1.show FM,?_,.lst ch ⟨NE.apart,(G.Ff z).2⟩ (db.show FM) (BH Sc),W.apart,λN=>f1 (FM _ N)⟩,⟨Tk,TW⟩,On _ (BV _),W.fresh,Ix⟩;show(((Z.trans (Step.keeps G.lt FS)).weaken λCh q=>q.elim).trans EQ.show).drop λH v=>?_;rcases v with(v|v)|v;·show On H (Re H v)
   ·show J v ?_;show Ok _ z
   ·show TE H v
  have F:=Ps _ _ UF WP;clear Ps;cases UV with|none=>show⟨Tk,TW,F⟩|some B=>show F
end
end
section
mutual
open A
variable{X At Z E:Addr->Prop}{f c o:St}{d Y w:Mu}{s m z:Shared}{C:Cx}{A:Around}{h j n:Heap}{y:PySem.Env}{e l:Env}{ow:Str->Bool}{a I:Addr}
structure O1(C:Cx)(A:Around)(env:PySem.Env)(elt target iter:Expr)(ifs:List Expr)(rest:List Comprehension)(scope:Scope)(pos:Pos)(vars:List Nat)(p:PT)(vs:List Nat)
  (k:Env->St->Option (List V×Gd×St)) (fl:Env->St->Option (Bool×St)) (fi:Env->St->Option (List V×St)):Prop where
 sc:PK C env scope vars
 it:Gy C A env target iter k
 hs:∀x,foldedSetIterable iter env x=pure x
 pt:∀L,Fv C A (Hc scope) (EA scope env L) p target
 ls:∀L,H' C A (EA scope env L) ifs fl
 VL:∀L D,Iw C A (Hc scope) (EA scope env L) D (innerOf elt (⟨target,iter,ifs,0⟩::rest) scope pos 0 (.ref D) (EA scope env L)) vs fi
 Tz:∀i∈vs,i∉pvars p
 sub:∀i∈pvars p++vs,i∈vars
def NG(r:List Nat)(p:PT)(k:Env->St->Option (List V×Gd×St))(fl:Env->St->Option (Bool×St))(i:Env->St->Option (List V×St)):Ba:=λe f=>((k e f).bind λ(q,g,f)=>Dr (λx f=>(BP p x (clear e r)).bind λe=>(fl e f).bind λ(t,f)=>match t with|true=>i e f|false=>some ([],f)) g q f).bind λ(b,f)=>if b.length<lim then some (.lst b,f)else none
def To{fl}{V:V}(q:NG r p k fl H e f=some (V,c)){D:Prop}(M:∀u g T ys,k e f=some (u,g,T)->Dr (λx f=>(BP p x (clear e r)).bind λe=>(fl e f).bind λ(t,f)=>match t with|true=>H e f|false=>some ([],f)) g u T=some (ys,c)->ys.length<lim->V=.lst ys->D):D:=by
 show AJ (Fu.mp q) λB v b=>?_;rcases B with⟨ys,N⟩;show AJ (Fu.mp v) λB i v=>?_;rcases B with⟨u,g,T⟩;simp only at b;split at b;·rename_i L;show AV (s2 b) λi G=>?_;clear b;subst i G;show M u g T ys i v L rfl
 ·show AS b
def cF{fl}(L:A.handled=none)(O:O1 C A y b AC G B N T H r p D k fl u):Au C A y (.ListComp b (⟨AC,G,B,0⟩::N) T H) (NG r p k fl u):=by intro e f V c q d s i R;show To q λl g o n t M v a=>?_;clear q;obtain rfl:=a;show Th L O.sc O.it O.hs O.pt O.ls O.VL O.Tz O.sub t M v i R λI h m Q j x=>Q.letGo x
def cw{fl}(L:A.handled=none)(O:O1 C A y b Ev Db Ch Do EQ AC r p D k fl IN)(On:x=C.nm i)(Ok:Ic ow y x)(No:swapsWith (.ListComp b (⟨Ev,Db,Ch,0⟩::Do) EQ AC) (some (.Name x Re)) TE.line y=pure true):D5 C A ow y (.Assign [.Name x Re] (.ListComp b (⟨Ev,Db,Ch,0⟩::Do) EQ AC) TE) λe f=>(NG r p k fl IN e f).bind λ(v,f)=>((BP (.nm i) v e).map λe=>(e,f)).map λ(e,f)=>(.next,e,f):=by
 intro e f WF l c q d s X R;show AJ (Fu.mp q) λm FS q=>?_;rcases m with⟨V,Uf⟩;show AJ (By.mp q) λm Fk q=>?_;rcases m with⟨W1,X0⟩;cases q;show AJ (By.mp Fk) λXV Fs Gc=>?_;cases Gc;show To FS λW g Uf Wp Fa TW JP UF=>?_;obtain rfl:=UF;show J (exec_Assign_Name_used _ _ _ _ No) ?_;rewrite[arm_evalThenUse_ListComp];show AA (EI (AA (AA (Th L O.sc O.it O.hs O.pt O.ls O.VL O.Tz O.sub Fa TW JP X R λI u Tl Q=>?_))));have F:=Q.new;show Ow Q.ex λUV Z w Tk E T0=>Xc Q.ns λOp S H1 Go K T M2 NE=>AV (LY (X:=(·=u)) (ow:=ow) R λB t=>t▸F) λIx Y=>BW (WY On Ok _ e _ Fs _ UV Tl _ Z (R.step w) Tk) (λh WP H=>(B3 H λn o M FM=>?_)) λh h q=>q;have N:=M.kept u S (Y u rfl) K E;show⟨Op,⟨S,H1,Go,N,T,M2,NE⟩,λj P=>AW (AW ?_)⟩;have Rs:LI (·=u) _:=λB Sc W Ps t a G=>by cases t;obtain rfl:=AP (N.symm.trans a);replace G:=(T)▸G;cases G
 have z:Step _ c n _ c n j:=Step.but o.lt P.extBut;show⟨n,o.but (E.step M (J K rfl) (Y u rfl)) (Q.fresh) (Off.of λSc W Ps a G=>by obtain rfl:=AP (N.symm.trans a);rw[T]at G;cases G) (λH=>absurd H (J M.A6 T0)) P.extBut,?_,FM.MT z Ix Rs.D4,.next⟩;show(((w.weaken (At:=λB=>_\/_) λh q=>q.elim).trans (M.weaken λB t=>.inl t)).trans (z.weaken λB t=>.inr t)).P' λB H=>H.imp id λ(t:B=u)=>J t F
end
end
mutual
open A
def Bd(C:Cx)(A:Around)(f:St)(d:Mu)(s:Shared)(V:V)(w:Value)(D:List Value):Prop:=wpAny (model C.prog C.w) A (call w D) (λv a=>Ab C f d s.heap V f v a) E0 s
def Et(b:Bi)(w:Value):Prop:=∀(C:Cx)(A:Around)(a f:St)(c:Mu)(s:Shared)(d:List V)(e:List Value)(V:V),Facts C->A.handled=none->A.units+40<cLine->Inv C a c s->AM a c s.heap d e->Cb a b d=some (V,f)->wpAny (model C.prog C.w) A (call w e) (λv g=>Ab C a c s.heap V f v g) E0 s
def Et.of(c:Qd b=false)(h:∀(C:Cx)(A)(f:St)(d:Mu)(s)(a)(D)(V:V),Facts C->A.handled=none->A.units+40<cLine->Inv C f d s->AM f d s.heap a D->Pa f b a=some V->Bd C A f d s V w D):Et b w:=λC A f j d s a D V F g i I q e=>oV (show _ by unfold Cb at e;replace e:=c▸e;show e) (G:=λV j=>wpAny _ A _ (λv k=>_) E0 s) λV e=>h C A f d s a D V F g i I q e
end
section
variable{f Ch I:St}{d Y O:Mu}{s N Db:Shared}{C:Cx}{z:Around}{h E H:Heap}{y:PySem.Env}{e M:Env}
section
mutual
open A
variable{b:Type}{a:List V}{D:List Value}{r:b}(q:AM f d h a D){G:List Value->Prop}
include q
theorem AM.one(j:one a w=some r)(k:∀x v,VR f d h x v->w x=some r->G [v]):G D:=by cases q with|nil=>show AS j|cons g i=>cases i with|nil=>show k _ _ g j|cons _ _=>show AS j
theorem AM.two(j:two a w=some r)(k:∀x A B v,VR f d h x B->VR f d h A v->w x A=some r->G [B,v]):G D:=by cases q with|nil=>show AS j|cons g i=>show i.one j (G:=λD=>G _) λA v q j=>k _ A _ v g q j
theorem AM.Kb(j:Kb a w g=some r)(k:∀x v,VR f d h x v->w x=some r->G [v])(m:∀x A B v,VR f d h x B->VR f d h A v->g x A=some r->G [B,v]):G D:=by cases q with|nil=>show AS j|cons l i=>cases i with|nil=>show k _ _ l j|cons i c=>cases c with|nil=>show m _ _ _ _ l i j|cons _ _=>show AS j
end
end
mutual
open A
def Ab.int(a:Inv C f d s)(i):Ab C f d s.heap (.int i) f (.int i B) {s with toks:=tk}:=Ab.same a ⟨_,rfl⟩ (.int _ _)
def Ab.kept(a:Inv C f d s)(c:∀b o,s.heap.get? b=some o->E.get? b=some o){V:V}(g:∀h,VR f d h V v):Ab C f d s.heap V f v {s with heap:=E,toks:=tk}:=Ab.keeps a c (g _)
def ZJ:Et .len (.builtin "len"):=.of rfl λC z f d s A T V F D G i q b=>q.one b λx v q b=>by have t:∀{l}{a o},some (Mine.V.int l.length)=some V->s.heap.IsList a o->AM f d s.heap l _->_->Bd C z f d s V _ _:=λb k c g=>Calls.call_len_list k (c.fit g).2 (AP b▸c.size▸Ab.int i _);cases x with|tup l=>show q.t rfl (G:=λv=>Bd C z f d s V _ [v]) λa o k j c g j=>len_tuple k (c.fit g).2 (AP b▸c.size▸Ab.int i _)|lst l=>show q.l rfl (G:=λv=>Bd C z f d s V _ [v]) λa o k j c g=>t b k c g|ref n=>show q.r rfl (G:=λv=>Bd C z f d s V _ [v]) λj=>JS b (λl m b=>i.list m λo g c p=>t b g c p) (λB Q m b=>BG (i.objs n _ m) λw p j=>?_) λj j=>nS;rcases w with⟨L,u,r⟩;show call_len_dict (IT F i (DK m)) u.dictOf (by have:=r.length;show Aa (IM (AY this.symm)) (Aa ez (Aa (IM p) (by simp+arith)))) (AP b▸r.length▸Ab.int i _)|_=>show AS b
def ZF:Et .abs (.builtin "abs"):=.of rfl λC z f d s g m V F j k b q a=>q.one a λx v q a=>oM a (G:=λV=>Bd C z f d s V _ _) λi c=>q.i c (G:=λv=>Bd C z f d s _ _ [v]) λt=>call_abs_int λu l=>Ab.int b _
def ZH:Et .int (.type "int"):=.of rfl λC z f d s k n V F l m g q a=>q.one a λx v q a=>oM a (G:=λV=>Bd C z f d s V _ _) λi c=>by clear a;cases x with|bool b=>show q.b rfl (G:=λv=>Bd C z f d s _ _ [v]) (AP c▸call_int_bool (Ab.int g _))|int j=>show q.i rfl (G:=λv=>Bd C z f d s _ _ [v]) λt=>AP c▸call_int_int (Ab.int g _)|_=>show AS c
def Qa:∀{u}{p}{D},ED u=some p->AM f d h u D->(∀v∈D,∃a t,v=Value.int a t)/\numsOf D=p:=by intro u;induction u with|nil=>intro p D b q;cases q.n;show AP b▸⟨λv l=>absurd l Cu,rfl⟩|cons x u g=>showλ{p D}b q=>q.c (G:=λD=>(∀v∈D,∃a t,v=Value.int a t)/\_=p) λv r n j=>oB b λi k b=>oM b (G:=λp=>_/\_) λo c=>n.i k (G:=λv=>(∀w∈v::r,∃a t,w=Value.int a t)/\numsOf (v::r)=_) λt=>⟨λw m=>(BU.mp m).elim (λb=>⟨_,_,b⟩) ((g c j).1 w),by show(?_:i::_=_);(show J (g c j).2 ?_;rfl)⟩
def R'(L:z.handled=none)(G:IsTup s.heap a m\/s.heap.IsList a m)(x:∀n:_,∀w j B St,Walks C.prog C.w z w j B m.size (λi v=>m[i]?=some v) St->St 0 n.heap->(∀b∈j,b<n.heap.objs.size)->(∀E tk,(∀b o,b∉B->n.heap.get? b=some o->E.get? b=some o)->∃H AC,{n with heap:=E,toks:=tk}={s with heap:=H,toks:=AC}/\∀b o,s.heap.get? b=some o->H.get? b=some o)->Q (.ref w) n):wpAny (model C.prog C.w) z (pyIter (.ref a)) Q T s:=by
 have j:∀(o),_->∀b∈[s.heap.objs.size,a],b<(s.heap.push o).objs.size:=λo c b k=>by
  rw[Gw];rcases BU.mp k with rfl|k;·show Cq _
  ·rcases BU.mp k with rfl|k;·show LG c
   ·cases k
 have A:∀(o)(E:Heap),(∀b p,b∉[s.heap.objs.size]->(s.heap.push o).get? b=some p->E.get? b=some p)->_:=λo E l b p g=>l b p (λr=>by rcases BU.mp r with D|r;show absurd (D▸Ci g) (HU _);cases r) (A7 _ g);rcases G with t|q
 ·have c:a<s.heap.objs.size:=by(show AJ t λu g u=>?_;(skip));show Ci g
  show iter_tuple t (x _ _ _ _ _ (Walks.tuple L _ a (Av c) _) ⟨⟨_,B4 _ rfl,rfl,rfl⟩,t.push _⟩ (j _ c) λE tk l=>⟨E,tk,rfl,A _ E l⟩)
 ·have c:a<s.heap.objs.size:=by(show AJ q λu g u=>?_;(skip));show Ci g
  show Ou q (x _ _ _ _ _ (Walks.list L _ a (Av c) _) ⟨⟨_,B4 _ rfl,rfl,rfl⟩,q.push _⟩ (j _ c) λE tk l=>⟨E,tk,rfl,A _ E l⟩)
def MC{m:Array _}(k:∀v∈m.toList,∃a t,v=Value.int a t)(n:numsOf m.toList=p)(c:m[i]?=some v):∃t,v=Value.int (p.getD i 0) t:=by subst n;show(by intro l;induction l with|nil=>intro _ i v b;simp at b|cons x l o=>intro g i v b;show Eb (g x AR) λa t r=>?_;obtain rfl:=r;cases i with|zero=>simp at b;subst b;show⟨t,by simp[numsOf]⟩|succ i=>show Ac (o (λv c=>g v (Ah _ c)) i v (by simpa using b)) λq j=>⟨q,by simpa[numsOf]using j⟩:∀(l:List Value),(∀v∈l,∃a t,v=Value.int a t)->∀(i:Nat)(v:Value),l[i]?=some v->∃t,v=Value.int ((numsOf l).getD i 0) t) _ k i v (by simpa using c)
def Q':∀{l},(∀v∈l,∃a t,v=Value.int a t)->(numsOf l).length=l.length:=by intro l;induction l with|nil=>intro j;show rfl|cons x l c=>intro b;show Eb (b x AR) λa t i=>?_;obtain rfl:=i;simp[numsOf,c λv g=>b v (Ah _ g)]
def fY{l:List Int}(b:m∈l)(c:∀a∈l,m<=a):l.min?=some m:=List.min?_eq_some_iff.mpr ⟨b,c⟩
def fP{l:List Int}(b:m∈l)(c:∀a∈l,a<=m):l.max?=some m:=List.max?_eq_some_iff.mpr ⟨b,c⟩
def ZM:Et .min (.builtin "min"):=.of rfl λC z f d s At Fa V F L EQ g q c=>q.Kb c (λx v q c=>oB c λFk I c=>oB c λp A c=>oM c (G:=λV=>Bd C z f d s V _ _) λm B=>by
  show Gr (Rc g q I) λa r w R S Do=>?_;clear q c;obtain rfl:=w;show AV (Qa A S) λo k=>?_;have n:_=r.size:=k▸Q' o;have Q:0<r.size:=by show Mine.AU n ?_;clear A c k n;cases p with|nil=>show AS B|cons i p=>show GV _
  show call_min_walk (R' L R λEv y N Z St Wk st O l=>⟨y,N,Z,_,_,St,_,rfl,Wk,st,O,Q,CmpOf.ints_lt _ λi v=>MC o k,λv E T D K=>Ac (MC o k D) λt AC=>?_⟩);clear D;obtain rfl:=AC;show Cg (l E T K) λH FS M P=>J M (AV (argBest_lt (λi=>p.getD i 0) (r.size-1)) λb1 b2=>?_);have em:=AP (B.symm.trans (fY (getD_mem (Ai b1 (AZ (Nat.sub_lt Q Nat.one_pos) (AY n.symm)))) λa G=>by show AJ (mem_getD G) λj Y w=>?_;clear G;obtain rfl:=w;show b2 j (Nat.le_sub_one_of_lt (AZ Y (AY n)))));show em▸Ab.kept g P λe=>.int _ _) λx Fs u v W X c=>Hm W X c (G:=λu v=>Bd C z f d s V _ [u,v]) λa t b FM c=>min_two_ints L λE T l=>AP c▸(Classical.em _).elim (λh=>J (AG h) (J (AG h) (Ab.kept g l λe=>.int _ _))) λh=>J (AF h) (J (AF h) (Ab.kept g l λe=>.int _ _))
def ZL:Et .max (.builtin "max"):=.of rfl λC z f d s At Fa V F L EQ g q c=>q.Kb c (λx v q c=>oB c λFk I c=>oB c λp A c=>oM c (G:=λV=>Bd C z f d s V _ _) λm B=>by
  show Gr (Rc g q I) λa r w R S Do=>?_;clear q c;obtain rfl:=w;show AV (Qa A S) λo k=>?_;have n:_=r.size:=k▸Q' o;have Q:0<r.size:=by show Mine.AU n ?_;clear A c k n;cases p with|nil=>show AS B|cons i p=>show GV _
  show call_max_walk (R' L R λEv y N Z St Wk st O l=>⟨y,N,Z,_,_,St,_,rfl,Wk,st,O,Q,CmpOf.ints_gt _ λi v=>MC o k,λv E T D K=>Ac (MC o k D) λt AC=>?_⟩);clear D;obtain rfl:=AC;show Cg (l E T K) λH FS M P=>J M (AV (argBest_gt (λi=>p.getD i 0) (r.size-1)) λb1 b2=>?_);have em:=AP (B.symm.trans (fP (getD_mem (Ai b1 (AZ (Nat.sub_lt Q Nat.one_pos) (AY n.symm)))) λa G=>by show AJ (mem_getD G) λj Y w=>?_;clear G;obtain rfl:=w;show b2 j (Nat.le_sub_one_of_lt (AZ Y (AY n)))));show em▸Ab.kept g P λe=>.int _ _) λx Fs u v W X c=>Hm W X c (G:=λu v=>Bd C z f d s V _ [u,v]) λa t b FM c=>max_two_ints L λE T l=>AP c▸(Classical.em _).elim (λh=>J (AG h) (J (AG h) (Ab.kept g l λe=>.int _ _))) λh=>J (AF h) (J (AF h) (Ab.kept g l λe=>.int _ _))
def ZO:Et .sum (.builtin "sum"):=.of rfl λC z f d s T Y V F t h c q b=>q.one b λx v q b=>oB b λP m b=>oM b (G:=λV=>Bd C z f d s V _ _) λy n=>by show Gr (Rc c q m) λa I Q B D e=>?_;clear q;obtain rfl:=Q;show AV (Qa n D) λg j=>?_;have k:=Q' g;rw[j]at k;show call_sum_walkG (R' t B λM l p L St Wk st r u=>⟨l,p,L,_,_,St,_,rfl,Wk,st,r,λi v=>MC g j,λE G N w=>Cg (u E G w) λH O o A=>J o ?_⟩);rewrite[PyProof.Rows.preSum_getD];show J (O' (by show AY k)) (Ab.kept c A λK=>.int _ _)
def ZP:Et .tuple (.type "tuple"):=.of rfl λC z f d s u G V F B D b q c=>q.one c λx v q c=>oM c (G:=λV=>Bd C z f d s V _ _) λr g=>by have o:∀a k,s.heap.IsList a k->AM f d _ r _->_->Bd C z f d s _ _ _:=λa k l j m=>call_tuple_list l (λE i=>Ab.trans (Step.keeps b.lt i) (Ab.tup (b.keeps i (tk:=s.toks) (dr:=s.drawn)) (j.keeps i) m)) (by have:=j.size;show AQ (AY this) (AQ m E'));clear c;cases x with|tup t=>show q.t rfl (G:=λv=>_->Bd C z f d s _ _ [v]) (λa k p w j l A q=>call_tuple_same p (AP g▸Ab.same b (.refl s) q)) q|lst t=>show q.EE b g (G:=λv=>Bd C z f d s _ _ [v]) o|ref n=>show q.EE b g (G:=λv=>Bd C z f d s _ _ [v]) o|_=>show AS g
def ZK:Et .list (.type "list"):=.of rfl λC z f d s D e V F L Q c q g=>q.one g λx v q g=>oM g (G:=λV=>Bd C z f d s V _ _) λB p=>by have w:=E';have m:∀{T}{a}{b},_->(∃o,s.heap.get? a=some o/\o.cls=.type T/\∃n,o.data=.seq b n)->AM f d _ B _->_->Bd C z f d s _ _ _:=λ{T a b}t A l k=>A.elim λo i=>i.2.2.elim λn u=>call_list_seq a t i.1 i.2.1 u (λE G j r=>Ab.keeps c j (.lst ⟨_,r,rfl,_,rfl⟩ (c.Ff (BV _)) (l.keeps j) k)) (by have:=l.size;show AQ (AY this) (AQ k w));show q.seq c p (G:=λv=>Bd C z f d s _ _ [v]) (λa b=>m (.inr rfl)) λa b=>m (.inl rfl)
end
end
mutual
open A
noncomputable def J2(b:Bi):Option String:=match b with|.Qi=>some "tuple"|.isList=>some "list"|.isBool=>some "bool"|.isInt=>some "int"|_=>none
noncomputable def RM(w:Value):Bool:=match w with|.builtin _=>true|.type _=>true|_=>false
end
section
mutual
open A
variable{f c m:St}{d Y r:Mu}{s i E:Shared}{C:Cx}{A:Around}{h G k:Heap}{y:PySem.Env}{e n:Env}
def LW(g:RM w=true)(a:b.any (·.1)=false)(h:wpAny u A (spliced b) (λD j=>wpAny u A (call w (first++D)) Q T j) T s):wpAny u A (callWith l w first b []) Q T s:=by
 cases w<;>first|(first|show AX g|cases g)|skip
 ·show PySem.callWith_type a (NX a h)
 ·show Calls.callWith_builtin a (NX a h)
def b8(F:Facts C)(L:A.handled=none)(Q:A.units+40<cLine)(t:Et b w)(B:RM w=true)(H:Fj C A y z g)(O:z.all (λj=>!isStar j)=true)(AC:y.kindOf x=some .globalImplicit)(u:(x=="__debug__")=false)(M:nsIn C.K mainGlobals x=some none)(N:x≠"__name__")(T:bootBuiltins x=some w):Au C A y (.Call (.Name x p) z [] At) λe f=>(g e f).bind λ(D,f)=>Cb f b D:=λe f V c q d s I R=>Jd (JR F I R AC u M N T (LW B (IZ O).1 ((H _).b q I R λo r D i n q a l h=>BW (t C A r c n i o D V F L Q a h q) (λv s2 m=>Ab.trans l m) λk k q=>q)))
def Nv(I:Inv C f d s){V:V}(q:VR f d s.heap X x)(j:Fb f w X=some V)(N:∀b,Bd C A f d s (.bool (w (.bool b))) (.builtin "isinstance") [.bool b,.type B])(ki:∀b t,Bd C A f d s (.bool (w (.int b))) (.builtin "isinstance") [.int b t,.type B])(O:∀b t,Bd C A f d s (.bool (w (.str b))) (.builtin "isinstance") [.str b t,.type B])(Q:∀u a o,s.heap.get? a=some o->o.cls=.type "tuple"->Bd C A f d s (.bool (w (.tup u))) (.builtin "isinstance") [.ref a,.type B])(H:∀u a o,s.heap.get? a=some o->o.cls=.type "list"->Bd C A f d s (.bool (w (.lst u))) (.builtin "isinstance") [.ref a,.type B])(kd:∀a o,s.heap.get? a=some o->o.cls=.type "dict"->Bd C A f d s (.bool false) (.builtin "isinstance") [.ref a,.type B]):Bd C A f d s V (.builtin "isinstance") [x,.type B]:=by cases X with|none=>show AS j|bool b=>show q.b rfl (G:=λx=>Bd C A f d s V _ [x,_]) (AP j▸N b)|int b=>show q.i rfl (G:=λx=>Bd C A f d s V _ [x,_]) λt=>AP j▸ki b t|str b=>show q.s rfl (G:=λx=>Bd C A f d s V _ [x,_]) λt=>AP j▸O b t|tup u=>show q.t rfl (G:=λx=>Bd C A f d s V _ [x,_]) λa D p g g g g=>p.elim λo z=>AP j▸Q u a o z.1 z.2.1|lst u=>show q.l rfl (G:=λx=>Bd C A f d s V _ [x,_]) λa D p g g g=>p.elim λo z=>AP j▸H u a o z.1 z.2.1|ref T=>show q.r rfl (G:=λx=>Bd C A f d s V _ [x,_]) λg=>oM j (G:=λV=>Bd C A f d s V _ _) λt l=>JS l (λu v l=>I.list v λD p g g=>p.elim λo z=>AP l▸(Bool.true_and _).symm▸H [] _ o z.1 z.2.1) (λe k v l=>AV (I.objs T _ v) λc g=>?_) λg g=>nS;rcases c with⟨i,⟨o,h,M,L,_⟩,_⟩;show AP l▸kd _ o M L.1
def eN(I:Inv C f d s){V:V}(D:J2 b=some B)(q:VR f d s.heap X x)(j:Pa f b [X]=some V):Bd C A f d s V (.builtin "isinstance") [x,.type B]:=by
 have p:∀w,Ab C f d _ (.bool w) f _ {s with toks:=s.toks+1}:=λw=>Ab.same I ⟨_,rfl⟩ (.bool _);have z:∀w,Ab C f d _ (.bool w) f _ s:=λw=>Ab.same I (.refl s) (.bool _);cases b<;>(first|show AS D|(have H:=AP D;clear D;subst H));·show Nv (w:=λv=>(FG v).isSome) I q j (λb=>IsiPair.bool_tuple (p _)) (λb t=>IsiPair.int_tuple (p _)) (λb t=>IsiPair.str_tuple (p _)) (λu a o g l=>IsiPair.tuple_tuple g l (z _)) (λu a o g l=>IsiPair.list_tuple g l (p _)) λa o g l=>IsiPair.dict_tuple g l (p _)
 ·show Nv (w:=λv=>(KY v).isSome) I q j (λb=>IsiPair.bool_list (p _)) (λb t=>IsiPair.int_list (p _)) (λb t=>IsiPair.str_list (p _)) (λu a o g l=>IsiPair.tuple_list g l (p _)) (λu a o g l=>IsiPair.list_list g l (z _)) λa o g l=>IsiPair.dict_list g l (p _)
 ·show Nv (w:=λv=>(boolOf v).isSome) I q j (λb=>IsiPair.bool_bool (z _)) (λb t=>IsiPair.int_bool (p _)) (λb t=>IsiPair.str_bool (p _)) (λu a o g l=>IsiPair.tuple_bool g l (p _)) (λu a o g l=>IsiPair.list_bool g l (p _)) λa o g l=>IsiPair.dict_bool g l (p _)
 ·show Nv (w:=λv=>(QZ v).isSome) I q j (λb=>IsiPair.bool_int (z _)) (λb t=>IsiPair.int_int (z _)) (λb t=>IsiPair.str_int (p _)) (λu a o g l=>IsiPair.tuple_int g l (p _)) (λu a o g l=>IsiPair.list_int g l (p _)) λa o g l=>IsiPair.dict_int g l (p _) 
def eM{b:Bi}(a:J2 b=some B):Qd b=false:=by cases b<;>first|rfl|(show AS a;done)
def cM(F:Facts C)(x:J2 b=some B){w:Ba}(N:Au C A y j w)(H:isStar j=false)(Ch:y.kindOf "isinstance"=some .globalImplicit)(O:nsIn C.K mainGlobals "isinstance"=some none)(AC:bootBuiltins "isinstance"=some (.builtin "isinstance"))(Db:y.kindOf (Str.ofString B)=some .globalImplicit)(M:(Str.ofString B=="__debug__")=false)(Q:nsIn C.K mainGlobals (Str.ofString B)=some none)(T:Str.ofString B≠"__name__")(At:bootBuiltins (Str.ofString B)=some (.type B)):Au C A y (.Call (.Name "isinstance" p) [j,.Name (Str.ofString B) l] [] Do) λe f=>((w e f).bind λ(v,f)=>(some ([],f)).map λ(D,f)=>(v::D,f)).bind λ(D,f)=>Cb f b D:=λe f V c q d s I R=>oB q λp g a=>Jd (JR F I R Ch (by decide) O (by decide) AC (LW rfl (IZ (by simp only[H7,List.all_nil,H];rfl)).1 (wpAny_items_cons (N.b g I R λX E v k r u o t h=>wpAny_items_cons (JR F o (R.step t) Db M Q T At (AW (oV (show _ by(have g:=AP u;clear u;subst g);unfold Cb at a;replace a:=eM x▸a;show a) (G:=λV c=>wpAny _ A _ (λv i=>_) E0 k) λV L=>BW (eN o x h L) (λn s2 z=>Ab.trans t z) λm m q=>q)))) (JY H _ _))))
end
end
mutual
open A
noncomputable def Pe(m:Bm):String:=Bm.casesOn (motive:=λa=>String) m "list" "list" "list" "dict" "list" "dict"
noncomputable def Pd(m:Bm):String:=Bm.casesOn (motive:=λa=>String) m "append" "extend" "sort" "get" "count" "setdefault"
noncomputable def Pc(m:Bm):String:=Bm.casesOn (motive:=λa=>String) m "list.append" "list.extend" "list.sort" "dict.get" "list.count" "dict.setdefault"
def Jk(m:Bm):Prop:=PlainAttrs (Pe m)/\Slot (Pe m) (Str.ofString (Pd m)) (Pc m)/\typeOf (.builtin (Pc m))=pure (.type "method_descriptor")
def Y9:Jk .append:=⟨F.plainAttrs_list,F.slot_list_append,F.type_list_append⟩
def Y':Jk .extend:=⟨F.plainAttrs_list,F.slot_list_extend,F.type_list_extend⟩
def ZD:Jk .sort:=⟨F.plainAttrs_list,F.slot_list_sort,F.type_list_sort⟩
def ZC:Jk .get:=⟨F.plainAttrs_dict,F.slot_dict_get,F.type_dict_get⟩
def Jl(m:Bm):Prop:=∀(C:Cx)(A:Around)(b e:St)(a:Mu)(s:Shared)(n:Nat)(c:List V)(d:List Value)(V:V),Facts C->A.handled=none->A.units+40<cLine->Inv C b a s->AM b a s.heap c d->E3 b (.ref n) m c=some (V,e)->wpAny (model C.prog C.w) A (call (.builtin (Pc m)) (.ref (a.loc n).a::d)) (λv f=>Ab C b a s.heap V e v f) E0 s
end
section
mutual
open A
variable{f c p:St}{d Y r:Mu}{s i t:Shared}{C:Cx}{A:Around}{h k l:Heap}{y:PySem.Env}{e q:Env}
def HY.none(P:HY C f d h c i):Ab C f d h .none c .none i:=P.imp λY z=>⟨z.1,z.2,.none⟩
def Jw(C:Cx)(A:Around)(f:St)(d:Mu)(s:Shared)(w:String)(a:Addr)(V:V)(c:St)(D:List Value):Prop:=wpAny (model C.prog C.w) A (call (.builtin w) (.ref a::D)) (λv i=>Ab C f d s.heap V c v i) E0 s
def Zf:Jl .append:=λC A f c d s n D L V F E G I g a=>g.one a λx v g a=>oB a λN b a=>by have b:=Ho b;show BG (I.objs n _ b) λB u M=>?_;rcases B with⟨H,w,j⟩;have m:=(oT a).1;show oP (oT a).2 (G:=λV c=>Jw C A f d s _ _ V c _) (wpAny_list_append_plain w (λk o z=>(RG I b o z (J Mj (j.append (.cons g .nil))) (by simp;show m)).none) (by have:=j.size;show AQ (AY this) (AQ u E')))
def dA(I:Inv C f d s)(o:f.objs n=some (.list u))(M:s.heap.IsList b g)(T:Be f d b)(z:AM f d s.heap ys g.toList)(AC:ys.length<=lim)(v:u.length+ys.length<lim):Jw C A f d s "list.extend" (d.loc n).a .none (f.set n (.list (u++ys))) [.ref b]:=by
 show BG (I.objs n _ o) λQ c h=>?_;rcases Q with⟨j,⟨m,a⟩,x⟩;have L:=E';have B:=x.size;have D:=z.size;obtain⟨O,w,E,e,G⟩:=M;have H:=extend_door (AQ (AQ (Ft (AY B) (AY D)) (BH v)) L);show FH PySem.F.slot_list_extend ⟨_,a,rfl⟩ PySem.F.entry_list_extend ((?_:wpAny _ _ (Builtin.List.listExtendWith _ _ _) _ _ s)) (PySem.F.args_list_extend_2 _ _);show AA (wpAny_typeOf ⟨O,w,E⟩ ?_);simp only[(by rw[(by decide:(Value.type "list"==Value.type "list")=true),Bool.or_true,Bool.true_or]:(Builtin.List.listSameRef (.ref (d.loc n).a) (.ref b)||Value.type "list"==Value.type "list"||Value.type "list"==Value.type "tuple")=true),if_true];show AA (AA (Gq w G (AW (AA (AA (Gq a rfl (AW (J (AF H) (AA (wpAny_updateSeq a rfl (AW ⟨_,rfl,?_⟩)))))))))));have N:(s.heap.update (d.loc n).a (Obj.mapSeq (·++g))).get? (d.loc n).a=some {cls:=.type "list",data:=.seq (j++g) (if(j++g).size==j.size then m else m+1)}:=by show J (Iu _ a (by rfl)) ?_;rfl
 show(RG I o ⟨_,N⟩ (FN ..) (J Array.toList_append (x.append z)) (J Bp (BH v))).none
def Zg:Jl .extend:=λC A f c d s n z G V F B D I g a=>g.one a λL v g a=>oB a λM m a=>oB a λH j a=>oP (oT a).2 (G:=λV c=>Jw C A f d s _ _ V c _) (g.l m (G:=λv=>Jw C A f d s _ _ _ _ [v]) λb E w o x u=>dA I (Ho j) w o x u (oT a).1)
def Zh:Jl .get:=λC A f c d s n G e V F L N I j a=>j.two a λK D O dv j B a=>oB a λT m a=>by
 show AJ (By.mp a) λz v a=>BG (I.objs n _ (P5 m)) λE M H=>?_;rcases E with⟨Q,u,x⟩;have o:=(bI u).dictOf.mapOf;show oP (AE _ a) (G:=λV c=>Jw C A f d s _ _ V c _) (call_meetsIn PySem.F.slot_dict_get o.typeIs PySem.F.entry_dict_get (PySem.F.args_dict_get_3 _ _ _) (meets_dict_get_default _ _ (iS j v) (IT F I (DK (P5 m))) dv) ⟨_,o,Ab.same I ⟨_,rfl⟩ ?_⟩);rcases x.get z with⟨b,g⟩|⟨W,w,b,g,h3⟩;·show J b (J g B)
 ·show J b (J g h3)
def g7(I:Inv C f d s)(g:FQ f (.ref n) m=true):s.TypeIs (.ref (d.loc n).a) (Pe m)/\∃j,s.heap.get? (d.loc n).a=some j/\j.dict=none:=by
 have L:((listAt f n).map λw=>()).isSome=_->s.TypeIs (.ref _) _/\∃j,s.heap.get? _=some j/\j.dict=none:=λa=>by show Ac (CG.mp (Option.isSome_map▸a)) λG a=>AV (I.objs n _ (Ho a)) λu w=>?_;rcases u with⟨B,⟨x,b⟩,_⟩;show⟨⟨_,b,rfl⟩,_,b,rfl⟩
 cases m with|append=>show L g|extend=>show L g|sort=>show L g|get=>show(λa=>by show Ac (CG.mp (Option.isSome_map▸a)) λE a=>AV (I.objs n _ (P5 a)) λu w=>?_;rcases u with⟨D,⟨o,z,b,v,_⟩,_⟩;show⟨⟨_,b,v.1⟩,_,b,v.2.1⟩) g|_=>show AX g
def hQ{x:V}(a:FQ f x m=true):∃n,x=.ref n:=by cases x with|ref n=>show⟨n,rfl⟩|_=>show AX a
def cA(F:Facts C)(L:A.handled=none)(FM:A.units+40<cLine)(B:Jk m)(EQ:Jl m){w:Ba}(Ev:Au C A y o w)(Ch:Fj C A y z g)(N:z.all (λj=>!isStar j)=true)(Db:z.length<30)(At:N7 o)(Do:(AC.endLine==Fa.line)=true)(FS:x=Str.ofString (Pd m)):Au C A y (.Call (.Attribute o x AC) z [] Fa) λe f=>(w e f).bind λ(v,f)=>if FQ f v m then(g e f).bind λ(D,f)=>E3 f v m D else none:=by
 subst FS;showλe f V c b d s I R=>wpAny_Call_method_lateS (At _ _ _) ?_ Do (Ev.b b I R λK W u P S b E G Q=>?_);·show J (IZ N).2 ?_;show J (BC Db) ?_;rfl
 show AV (oT b) λM b=>Ac (hQ M) λn q=>?_;obtain rfl:=q;show AV Q.is λp i=>?_;clear Q;obtain rfl:=p;have O:=g7 E M;show⟨_,_,B.1,B.2.1,B.2.2,O.1,λa j=>by cases j;show O.2,LW rfl (IZ N).1 ((Ch _).b b E (R.step G) λh Y D s2 t b T H k=>Mine.AU (H.mu n i).1 (BW (EQ C A Y c t s2 n h D V F L FM T k b) (λv s3 r=>Ab.trans (G.trans H) r) λl l b=>b))⟩
end
end
section
mutual
open A
variable{X At Z E:Addr->Prop}{f m L:St}{d Y O:Mu}{s N Q:Shared}{C:Cx}{B:Around}{h a H:Heap}{y:PySem.Env}{e M:Env}{I:Addr}
def VR.adopt(D:∀n,f.has n->n<f.next)(z:Off f d h I)(T:Heap.ExtBut I h a){V:V}(q:VR f d h V v):VR (f.new o) (d.new f.next ⟨I,I,ep⟩) a V v:=q.mono (Y:=d.new _ _) (λj u A k p w c=>⟨T j u (z j u A k p w c) p,λx g=>by
   rcases DJ g with rfl|g;·rw[Mu.Bt];have:=z j u A k p w c;show⟨this,this⟩
   ·show J (Mu.B1 _ _ (Av (D x g))) ?_;show c.1 x g,c.2⟩) (A1 _) λn G=>J (Mu.B1 _ _ (Av G)) rfl
def AM.adopt(w:∀n,f.has n->n<f.next)(t:Off f d h I)(z:Heap.ExtBut I h a){V}(q:AM f d h V v):AM (f.new o) (d.new f.next ⟨I,I,ep⟩) a V v:=q.mono (Y:=d.new _ _) (λi l u k j p b=>⟨z i l (t i l u k j p b) j,λr g=>by
   rcases DJ g with rfl|g;·rw[Mu.Bt];have:=t i l u k j p b;show⟨this,this⟩
   ·show J (Mu.B1 _ _ (Av (w r g))) ?_;show b.1 r g,b.2⟩) (A1 _) λn x=>J (Mu.B1 _ _ (Av x)) rfl
def Inv.adopt(g:Inv C f d s)(t:Apart f d I)(v:C.h0.get? I=none)(T:Off f d s.heap I)(AC:¬d.A6 I)(n:Heap.ExtBut I s.heap a)(u:(a.get? I).isSome=true)(r:OR C (f.new o) (d.new f.next ⟨I,I,ep⟩) a f.next o)(Db:∀z Ch,o≠.dict z Ch->True):Inv C (f.new o) (d.new f.next ⟨I,I,ep⟩) {s with heap:=a,toks:=tk,drawn:=dr}where
 base:=λi G j=>n i G (by rintro rfl;rw[v]at j;show AS j) (g.base i G j);objs:=λc y j=>by
  by_cases b:c=f.next;·subst b;simp only[St.new,AG]at j;(have e:=AP j;clear j;subst e);show r
  ·have x:=by simpa only[St.new,AF b]using j
   have A:f.has c:=by unfold St.has;show J x ?_;rfl
   show OR.mono (λi m q B=>n i m ?_ q) (Mu.B1 _ _ b) (λq=>q.adopt g.lt T n) (λq=>q.adopt g.lt T n) (g.objs c y x);clear q;rcases B with rfl|rfl;·show CE (t c A).1
   ·show CE (t c A).2
 live:=λc b=>by
  have D:∀i,(s.heap.get? i).isSome=_->(a.get? i).isSome=_:=λi j=>by
   by_cases q:i=I;·show J q ?_;show u
   ·show Ac (CG.mp j) λo r=>?_;show J (n i o q r) ?_;rfl
  rcases DJ b with rfl|b;·rw[Mu.Bt];show⟨u,u⟩
  ·show J (Mu.B1 _ _ (Av (g.lt c b))) ?_;show⟨D _ (g.live c b).1,D _ (g.live c b).2⟩
 apart:=λc k w b l=>by
  rcases DJ b with rfl|b<;>rcases DJ l with rfl|l;·show absurd rfl w
  ·(rewrite[Mu.Bt];show J (Mu.B1 _ _ (Av (g.lt k l))) ?_);have p:=t k l;show⟨p.1,p.2,p.2⟩
  ·(rewrite[Mu.Bt];show J (Mu.B1 _ _ w) ?_);have p:=t c b;show⟨CE p.1,CE p.1,CE p.2⟩
  ·show J (Mu.B1 _ _ (Av (g.lt c b))) (J (Mu.B1 _ _ (Av (g.lt k l))) (g.apart c k w b l))
 fresh:=λc b=>by
  rcases DJ b with rfl|b;·rw[Mu.Bt];show⟨v,v⟩
  ·show J (Mu.B1 _ _ (Av (g.lt c b))) ?_;show g.fresh c b
 lt:=λc b=>by
  rcases DJ b with rfl|b;·show Cq _
  ·show LG (g.lt c b)
 Dj:=λc b=>by
  rcases DJ b with rfl|b;·rw[Mu.Bt];show⟨AC,AC⟩
  ·show J (Mu.B1 _ _ (Av (g.lt c b))) ?_;show g.Dj c b
 Dw:=λi h=>by
  by_cases q:i=I;·show J q ?_;show u
  ·show Ac (CG.mp (g.Dw i h)) λo r=>?_;show J (n i o q r) ?_;rfl
 Dv:=g.Dv;gens:=g.gens;os:=g.os
def Step.adopt{ep}(q:∀n,f.has n->n<f.next)(l:Heap.ExtBut I h a):Step (·=I) f d h (f.new o) (d.new f.next ⟨I,I,ep⟩) a where
 next:=A1 _;mu:=λi b=>J (Mu.B1 _ _ (Av b)) (⟨rfl,rfl⟩);A6:=rfl;old:=λi b g=>(DJ g).resolve_left (Av b);new:=λi b g=>by
  rcases DJ g with rfl|g;·rw[Mu.Bt];show⟨.inr rfl,.inr rfl⟩
  ·show absurd (q i g) (D8.mpr b)
 live:=λj k c=>Ac (CG.mp c) λo r=>J (l j o k r) rfl;kept:=λj o k c u=>l j o k c;ep:=λi b p t c=>by show⟨p,t,(by simpa only[St.new,AF (Av b)]using c),Ag _,λu=>⟨rfl,J (Mu.B1 _ _ (Av b)) rfl⟩⟩
def PR(f:St)(d:Mu)(h:Heap):List (SK×V)->List (Value×Value)->Prop|[],[]=>True|(k,x)::c,(b,v)::g=>SK.Fb k b=true/\VR f d h x v/\PR f d h c g|_,_=>False
noncomputable def Mc:List (SK×V)->List (Value×Value)->List (SK×Value)|(k,_)::b,(_,v)::c=>(k,v)::Mc b c|_,_=>[]
def XA(j:(c.map (·.1)).Nodup)(k:SK)(v):((PySem.stored c k v).map (·.1)).Nodup:=by
 unfold PySem.stored;split
 ·have:(c.map λg=>if g.1=k then(g.1,v)else g).map (·.1)=c.map (·.1):=by show J Bj (GP λp u=>?_);simp only[Function.comp];split<;>rfl
  show J this ?_;show j
 ·rename_i q;show J C8 ?_;rewrite[List.nodup_append];show⟨j,by simp,λt o b i l=>?_⟩;simp at i;subst i;show AJ (Ar.mp o) λp r n=>q (Ds.mpr ⟨p,r,by simp[n,l]⟩)
def PR.ind{u:List (SK×V)->List (Value×Value)->Prop}(j:u [] [])(l:∀k x b i v D,SK.Fb k i=true->VR f d h x v->PR f d h b D->u b D->u ((k,x)::b) ((i,v)::D)){b:List (SK×V)}:∀{D:List (Value×Value)},PR f d h b D->u b D:=by induction b with
 |nil=>showλ{D}q=>by cases D with|nil=>show j|cons=>show q.elim
 |cons g b n=>showλ{D}q=>by cases D with|nil=>show q.elim|cons c D=>show l g.1 g.2 b c.1 c.2 D q.1 q.2.1 q.2.2 (n q.2.2)
def fU{g:List (SK×V)}{D:List (Value×Value)}(q:PR f d h g D):∀{z:List (SK×V)}{c:List (SK×Value)},CN f d h z c->(c.map (·.1)).Nodup->CN f d h (g.foldl (λz p=>DZ z p.1 p.2) z) (merged c (Mc g D)):=PR.ind (u:=λg D=>∀{z c},CN f d h z c->(c.map (·.1)).Nodup->CN f d h (g.foldl (λz(p:SK×V)=>DZ z p.1 p.2) z) (merged c (Mc g D))) (λq r=>q) (λk x g o v D l b n j z c q i=>j (q.stored i b) (XA i k v)) q
def Ur:∀(b:List (SK×V))(z),(b.foldl (λz p=>DZ z p.1 p.2) z).length<=z.length+b.length:=by intro b;induction b with|nil=>intro z;show Ag _|cons p b c=>intro z;show lf (c (DZ z _ _)) (lf (Wc (z:=z) (k:=p.1) (v:=p.2)) (by simp+arith)) 
def aU{i:Program}{w:World}{g:List (SK×V)}{D:List (Value×Value)}(q:PR f d h g D):Carries (Fe i w) D (Mc g D):=PR.ind (u:=λg D=>Carries (Fe i w) D (Mc g D)) trivial (λk x g n v D j b c l=>⟨j,rfl,l⟩) q
abbrev LJ(C:Cx)(B:Around)(y:PySem.Env)(keys:List (Option Expr))(c:List Expr)(w:Env->St->Option (List (SK×V)×St)):Prop:=∀b,Sm C B y (evalPairs (pairTrees keys c y b)) PR w
def hD:LJ C B y [] [] λj f=>some ([],f):=λi e f c m g d s b R=>pairTrees_nil_walk (oP g (G:=λc m=>∃Y,Inv C m Y s/\Step BO f d _ m Y _/\PR m Y _ c []) ⟨d,b,Step.refl _ _ _ b.lt,trivial⟩)
def hC{w g:Ba}(z:Au C B y k w)(G:Au C B y v g)(T:LJ C B y AC D r):LJ C B y (some k::AC) (v::D) λe f=>(w e f).bind λ(x,f)=>(Ht x).bind λx=>(g e f).bind λ(A,f)=>(r e f).map λ(j,f)=>((x,A)::j,f):=λN e f j m q d s l R=>pairTrees_cons_walk (z.b q l R λx I M Q F q n b a=>oB q λL t q=>G.b q n (R.step b) λA I Y s2 K q o c h=>oL q λO u ev=>ev▸(T _).t u o (R.step (b.trans c)) λD s3 H p i E=>⟨H,p,(b.trans c).trans i,Kh a t,h.Cv i,E⟩)
def cS(Do:LJ C B y keys AC w)(Db:keys.all (·.isSome)=true)(Ev:keys.length=AC.length)(Ch:keys≠[])(T:keys.length<=15)(EQ:∀e f c m,w e f=some (c,m)->c.length=keys.length):Au C B y (.Dict keys AC FM) λe f=>(w e f).map λ(c,f)=>(.ref f.next,f.new (.dict (HC c) 0)):=by
 intro e f V m q d s i R;show AJ (By.mp q) λW p q=>?_;rcases W with⟨c,u⟩;cases(q);have F:∀b o,_->(s.heap.push {cls:=.type "dict",data:=.dict #[]}).get? b=some o:=λg g l=>A7 _ l;have z:(s.heap.push {cls:=.type "dict",data:=.dict #[]}).get? _=_:=B4 _ rfl;have v:Step BO f d _ f d _:=Step.keeps i.lt F;have L:=i.push {cls:=.type "dict",data:=.dict #[]} (tk:=s.toks) (dr:=s.drawn);show wpAny_Dict_walk (knd:=Fe _ _) Db Ev Ch T ((Do _).t p L (R.step v) λS H I r k E=>?_);have x:=i.Eh (BV _);have A:=k.kept _ _ id z x;have h:Off u I _ _:=Off.of λo FS n j O=>by rw[A]at j;(have p:=AP j;clear j;subst p);cases O
 show⟨_,aU E,⟨_,_,0,A,⟨rfl,rfl,rfl⟩,rfl,λl Y=>by simp at Y,.nil,by simp⟩,λa Q t=>(Ac Q.dictAt λN D=>?_)⟩;have K:(a.get? s.heap.objs.size).isSome=true:=by(show Cg D λo Z j g=>?_;(skip));show J j ?_;rfl
 have P:=fU E (z:=[]) (c:=[]) trivial (by simp);have G:=Ur c [];have M:=r.adopt (o:=.dict (HC c) 0) (tk:=H.toks+S.length) (dr:=H.drawn) (x.step k (J z rfl) id) (i.newOf (BV _)) h (by show J k.A6 ?_;show(i.Ff (BV _)).2) t.extBut K ⟨⟨_,by rw[Mu.Bt];show D,P.mono λq=>q.adopt r.lt h t.extBut⟩,by simp at G;show(AQ G (AQ (AY (EQ _ _ _ _ p)) (AQ T (Ay _ _)))),by rw[Mu.Bt]⟩ λg g g=>trivial;show⟨_,M,((v.trans k).weaken λg q=>q.elim).trans (Step.adopt r.lt t.extBut)|>.drop λX l=>by show J l ?_;show BV _,?_⟩;have:=VR.ref (σ:=u.new (.dict (HC c) 0)) (μ:=I.new u.next ⟨s.heap.objs.size,s.heap.objs.size,N⟩) (h:=a) _ (Cq _);rw[Mu.Bt]at this;show this
def cU:Au C B y (.Dict [] [] v) λl f=>some (.ref f.next,f.new (.D1 [])):=by intro e f V m q d s j R;show AV (s2 q) λr t=>?_;clear q;subst r t;show wpAny_Dict_empty ?_;have k:∀b o,_->(s.heap.push {cls:=.type "dict",data:=.dict #[]}).get? b=some o:=λl l p=>A7 _ p;have c:(s.heap.push {cls:=.type "dict",data:=.dict #[]}).get? _=_:=B4 _ rfl;have n:=j.alloc (o:=.D1 []) (l:=⟨s.heap.objs.size,s.heap.objs.size,0⟩) (tk:=s.toks) (dr:=s.drawn) k (BV _) (BV _) (J c rfl) (J c rfl) ⟨⟨[],⟨_,#[],0,by rw[Mu.Bt];show c,⟨rfl,rfl,rfl⟩,rfl,rfl,(λx g=>by cases g),by simp⟩,(λx g=>by cases g),rfl,λi u=>by cases u⟩,De _,by rw[Mu.Bt]⟩;show⟨_,n,Step.alloc j.lt k (BV _) (BV _),?_⟩;have:=VR.ref (σ:=f.new (.D1 [])) (μ:=d.new f.next ⟨s.heap.objs.size,s.heap.objs.size,0⟩) (h:=s.heap.push {cls:=.type "dict",data:=.dict #[]}) _ (Cq _);rw[Mu.Bt]at this;show this
def cI{w:Ba}(D:Au C B y j w)(o:b.length<=1000):Au C B y (.JoinedStr [.Constant (.str b) k G,.FormattedValue j (-1) none l] AC) λe f=>(w e f).bind λ(v,f)=>(intOf v).bind λi=>if 0<=i/\i<lim then some (.str (Str.empty++b++Str.ofString (toString i)),f)else none:=by
 intro e f V m q d s u R;show wpAny_JoinedStr (wpAny_Constant_str ⟨_,_,rfl,?_,?_⟩)
 ·have:(Str.empty++b).length<=1000:=by rw[strLen_append];show(?_:0+_<=_);show lf o (by simp+arith)
  show AQ this (by decide)
 ·show(?_:wpAny _ _ _ _ _ _);show AA (D.b q (show Inv _ _ _ {s with toks:=s.toks+1}from u.same ⟨_,rfl⟩) R λW H v h E q x z r=>oB q λi A q=>AA (EI (AA (Cs (AW ?_)))));have g:=(oT q).1;have n:i.natAbs.log2<1920:=by
   have a:lim=1000000:=rfl;by_cases c:i.natAbs=0;·show J c ?_;decide
   ·have:=(Nat.log2_lt c).mpr (AZ (fh (Fo (by decide:-(lim:Int)<0) g.1) g.2) (by decide:lim<=2^20));show AZ this (Ay _ _)
  have p:(Str.empty++b++Str.ofString (toString i)).length<=sizeLine:=by have:=int_text_len_1921 n;rw[strLen_append,strLen_append];show AQ (Ft (Ft (Ag 0) o) this) (by decide:0+1000+1921<=sizeLine)
  show Ac (int_is A▸r).is λt T=>?_;clear r;obtain rfl:=T;show wpAny_formatField_int n ⟨_,_,rfl,p,p,oP (oT q).2 (G:=λV m=>Ab C f d _ V m _ _) (Ab.trans z (Ab.same x ⟨_,rfl⟩ (.str _ _)))⟩
end
end
section
mutual
open A
variable{X At Z E:Addr->Prop}{f k B:St}{d Y H:Mu}{s u L:Shared}{C:Cx}{A:Around}{h p w:Heap}{y:PySem.Env}{e G:Env}{I:Addr}
def Gj(a:∀n,f.has n->n<f.next)(h:(f.pop k).has n):n<f.next/\k.has n:=by
 unfold St.has St.pop at h;by_cases q:n<f.next;·simp only[AG q]at h;show⟨q,h⟩
 ·simp only[AF q]at h;show absurd (a n h) q
def VR.pop(g:∀n,f.has n->n<f.next){V:V}(q:VR k d h V v):VR (f.pop k) d h V v:=q.mono (λa o M n x D c=>⟨x,λm j=>c.1 m (Gj g j).2,c.2⟩) (Ag _) λz z=>rfl
def AM.pop(g:∀n,f.has n->n<f.next){V}(q:AM k d h V v):AM (f.pop k) d h V v:=q.mono (λa o t n j r b=>⟨j,λm i=>b.1 m (Gj g i).2,b.2⟩) (Ag _) λl l=>rfl
def Inv.pop(c:∀n,f.has n->n<f.next)(r:f.next<=k.next)(b:Inv C k d s):Inv C (f.pop k) d s where
 base:=b.base;objs:=λn o i=>by show AV (Gj c (DK i)) λj x=>OR.mono (λa z l D=>l) rfl (λq=>q.pop c) (λq=>q.pop c) (b.objs n o (by unfold St.pop at i;simpa only[AG j]using i))
 live:=λn g=>b.live n (Gj c g).2;apart:=λn m v g t=>b.apart n m v (Gj c g).2 (Gj c t).2;fresh:=λn g=>b.fresh n (Gj c g).2;lt:=λn g=>AZ (Gj c g).1 r;Dj:=λn g=>b.Dj n (Gj c g).2;Dw:=b.Dw;Dv:=b.Dv;gens:=b.gens;os:=b.os
def Step.pop(g:∀n,f.has n->n<f.next)(S:Step X f d h k Y p):Step X f d h (f.pop k) Y p where next:=S.next;mu:=S.mu;A6:=S.A6;old:=λn a b=>S.old n a (Gj g b).2;new:=λn a b=>absurd (Gj g b).1 (D8.mpr a);live:=S.live;kept:=S.kept;ep:=λn a i j c=>S.ep n a i j (by unfold St.pop at c;simpa only[AG a]using c)
structure FnAt(C:Cx)(a:Addr)(F:Fn)(fd:FuncData)(body:List Stmt):Prop where
 look:∃oc od osl,C.K.lookup a=some ⟨oc,od,.func fd,osl⟩
 globals:fd.globals=mainGlobals
 builtins:fd.builtins=builtinsNs
 closure:fd.closure=[]
 kind:fd.scope.kind=.function
 co:fd.scope.isCoroutine=false
 gen:fd.scope.isGenerator=false
 code:codeIn C.K fd.code fd.qualname=true
 body:fd.body=.stmts body
 bind:∀vals:List Value,vals.length=F.params.length->bindArgs fd ⟨vals,[]⟩=pure ((F.params.map C.nm).zip vals)
 nodup:F.params.Nodup
 names:(fd.scope.names.map (·.1)).Nodup
 kinds:∀i∈F.params,fd.scope.names.lookup (C.nm i)=some .local\/fd.scope.names.lookup (C.nm i)=some .cell
def S5:∀{g}{D}{e},GZ c g=some e->AM f d h g D->∀i V,e i=some V->i∈c/\∃v,(C.nm i,v)∈(c.map C.nm).zip D/\VR f d h V v:=by induction c with|nil=>showλb q i V a=>AS ((Ga (AP (oT b).2) i).trans a)|cons z c r=>intro g D e b q i V a;cases q with|nil=>show AS b|cons q t=>
   show AJ (By.mp b) λN j x=>?_;obtain rfl:=x;show oI a (λo l=>?_) λM a=>?_;·subst o;show AP l▸⟨AR,_,AR,q⟩
   ·obtain⟨m,v,n,h3⟩:=r j t i V a;show⟨Ah _ m,v,Ah _ n,h3⟩
def S4:∀{a}{e},GZ c a=some e->c.length=a.length:=by induction c with|nil=>showλb=>isEmpty_nil (oT b).1▸rfl|cons l c i=>intro a e b;cases a with|nil=>show AS b|cons W j=>show oM b (G:=λm=>_) λn g=>AE _ (i g)
def ZU{kindOf}{a}:∀{m}{x}{v},x∉a.map (·.1)->m x=v->bindL kindOf a m x=v:=by induction a with|nil=>showλg i=>i|cons b r l=>showλ{m x v}c h=>l (λq=>c (Ah _ q)) (iG (G:=λj:_->_=>j x=v) (λg=>(AF λq:x=_=>c (q▸AR)).trans h) λg=>h)
def ZT{kindOf}{a}:∀{m}{x}{v},(a.map (·.1)).Nodup->kindOf x=some .local->(x,v)∈a->bindL kindOf a m x=some v:=by induction a with|nil=>showλn n c=>(by cases c)|cons b r l=>
  intro m x v g i c;have g:=DO.mp g;rcases BU.mp c with j|c;·cases j;show ZU (a:=r) g.1 ((Ga (AG i) x).trans (AG rfl))
  ·show l g.2 i c
def ZS{kindOf}{a}:∀{m}{x}{v},x∉a.map (·.1)->m x=v->bindC kindOf a m x=v:=by induction a with|nil=>showλg i=>i|cons b r l=>showλ{m x v}c h=>l (λq=>c (Ah _ q)) (iG (G:=λj:_->_=>j x=v) (λg=>h) λg=>(AF λq:x=_=>c (q▸AR)).trans h)
def ZR{kindOf}{a}:∀{m}{x}{v},(a.map (·.1)).Nodup->kindOf x≠some .local->(x,v)∈a->bindC kindOf a m x=some v:=by induction a with|nil=>showλn n c=>(by cases c)|cons b r l=>
  intro m x v g i c;have g:=DO.mp g;rcases BU.mp c with j|c;·cases j;show ZS (a:=r) g.1 ((Ga (AF i) x).trans (AG rfl))
  ·show l g.2 i c
def TZ(g):∀n:_,(g.map (·.1)).Nodup->((cellsFrom n g []).map (·.1)).Nodup:=by induction g with|nil=>showλi i=>G1|cons x r m=>intro n c;have c:=DO.mp c;show iG (c:=(_==_)=_) (G:=λl:List (_×_)=>(l.map _).Nodup) (λi=>?_) λi=>m n c.2;(rewrite[JB];show J C8 ?_;rewrite[List.nodup_append]);show⟨m _ c.2,DO.mpr ⟨Cu,.nil⟩,λa j b o q=>(AJ (Ar.mp j) λz t v=>?_)⟩;clear j;obtain rfl:=v;show c.1 (Ar.mpr ⟨_,TY r _ _ _ t,q.trans (As.mp o)⟩)
def ke{a:List _}{D:List Value}(b:D.length=a.length):((a.map C.nm).zip D).map (·.1)=a.map C.nm:=by show J (List.map_fst_zip (by simp[b])) rfl
def f6{a:List _}(b:a.Nodup):(a.map C.nm).Nodup:=by induction a with|nil=>show G1|cons l a j=>simp only[DO]at b;show J Fq ?_;rewrite[DO];show⟨λg=>AJ (Ar.mp g) λq i c=>b.1 (C.inj _ _ c▸i),j b.2⟩
noncomputable abbrev G5:Str->Bool:=λa=>true
def dM(K:FnAt C a F g Db)(n:Inv C f d s)(l:GZ F.params AC=some e)(q:AM f d s.heap AC D){t}(x:InCallC s (callEnvC g s.heap.objs.size a).locals (bindL (callEnvC g s.heap.objs.size a).kindOf ((F.params.map C.nm).zip D) λCh=>none) (callEnvC g s.heap.objs.size a).cells (bindC (callEnvC g s.heap.objs.size a).kindOf ((F.params.map C.nm).zip D) λCh=>none) t):(∀b o,s.heap.get? b=some o->t.heap.get? b=some o)/\Inv C f d t/\ER C (callEnvC g s.heap.objs.size a) e f d t.heap/\∀b,FX G5 (callEnvC g s.heap.objs.size a) b->s.heap.get? b=none:=by
 have r:=x.toInCall.keep;show Eb x.toInCall.same λH E G=>?_;obtain rfl:=G;have p:(((F.params.map C.nm).zip D).map (·.1)).Nodup:=by show J (ke (Mine.AU q.length (J (S4 l) rfl))) ?_;show f6 K.nodup
 have h:∀b,_->s.heap.get? b=_:=λb l=>by cases z:s.heap.get? b with|none=>rfl|some o=>show absurd (Ci z) (D8.mpr l)
 have Q:((callEnvC g s.heap.objs.size a).cells.map _).Nodup:=TZ _ _ K.names;show⟨r,(n.keeps r (tk:=E) (dr:=s.drawn)),⟨K.kind,K.globals,K.builtins,⟨_,x.toInCall.ns,λi V M A=>?_⟩,λi V M w=>?_,λm c j=>?_,x.apart,λm B=>?_,n.Eh (BV _),n.newOf (BV _)⟩,λb l=>?_⟩;·obtain⟨_,v,j,T⟩:=S5 l q i V M;show⟨v,ZT p A j,T.keeps r⟩
 ·obtain⟨y,v,j,T⟩:=S5 (C:=C) l q i V M;have u:(callEnvC g s.heap.objs.size a).kindOf (C.nm i)≠some .local:=by rcases w with z|z<;>show J z ?_<;>trivial
  show Ac (NA _ (s.heap.objs.size+1) _ (mem_of_lookup ((K.kinds i y).resolve_left u))) λc O=>?_;have k:=lookup_mem O Q;show⟨c,v,k,?_,T.keeps r⟩;have:=x.cell _ c k;rw[ZR p u j]at this;show this
 ·skip;have N:=x.above m c j;show⟨⟨_,x.cell m c (lookup_mem j Q)⟩,n.Eh (h c (BH N)),n.newOf (h c (BH N)),Dd N⟩
 ·show Ac (NA _ (s.heap.objs.size+1) m (mem_of_lookup B)) λc O=>?_;show J (lookup_mem O Q) ?_;rfl
 ·rcases l with rfl|⟨m,_,j⟩;·show BV _
  ·skip;show h b (BH (x.above m b j))
noncomputable def Um(r:Flow):Value:=match r with|.ret v=>v|_=>.none
def Gv.val{fl:Fl}{r:Flow}(q:Gv f d h fl r):VR f d h fl.val (Um r):=Gv.rec (motive:=λfl r b=>VR f d h fl.val (Um r)) .none .none (λa=>a) q
def dK(l:Facts C)(K:FnAt C a F g Ch)(Db:E1 A (n+1))(Do:∀M,GI C (A.deeper (callEnvC g M a)) G5 (callEnvC g M a) Ch (Ao P F.body)){V:V}(j:Ke P F AC f=some (V,k))(b:Inv C f d s)(q:AM f d s.heap AC D):codeAny (model C.prog C.w) A (.call (.ref a) ⟨D,[]⟩) (GF C f d s.heap V k) s:=by
 show AJ (Fu.mp j) λe t j=>AJ (By.mp j) λW w j=>?_;rcases W with⟨fl,X,Z⟩;cases j;show Ox K.look λEv FM FS I=>?_;have o:=b.Em l;show codeAny_call_cells (by have:=Db.depth;show Ai (Mw (A2 _ _)) this) (o _ _ I) rfl (l.V6.keeps b.base) (codeRec_of o K.code) K.body (K.bind D (Mine.AU q.length (J (S4 t) rfl))) K.closure (by intro x L;show AJ (Ar.mp (HT (a:=x.1) (b:=x.2) L).1) λi G y=>Mine.AU y ((K.kinds i G).imp id λz=>⟨z,Ac (NA _ (s.heap.objs.size+1) _ (mem_of_lookup z)) λc B=>?_⟩);show J (lookup_mem B (TZ _ _ K.names)) ?_;rfl) (λR x=>?_) K.co K.gen K.kind;show CW (dM K b t q x) λH T h E=>BW (Do _ e f fl X Z w d R T h) (λr u z=>H0 z λQ m p EQ Y=>?_) λO O q=>q.elim;have S:=(((Step.keeps b.lt H).weaken λO q=>q.elim).trans p).drop E;have N:=Y.val;by_cases v:F.pop=true;·skip;show J (AG v) ⟨Q,m.pop b.lt S.next,S.pop b.lt,N.pop b.lt⟩
 ·skip;show J (AF v) ⟨Q,m,S,N⟩ 
end
end
mutual
open A
def Cn{a:Type}(O:Nat)(P:a->Prop)(t:KasT a):Prop:=KasT.rec (motive:=λc=>Prop) P (λi j c h=>i<O/\j<O/\∀b,h b) t
def Cn.ret{P}{a:b}(h:P a):Cn O P (.ret a):=h
def Cn.ask{P:d->_}{k}(a:i<O)(c:j<O)(h:∀b,Cn O P (k b)):Cn O P (.ask i j k):=⟨a,c,h⟩
def Cn.bind{P}{R:e->_}{w}{t:KasT d}(h:Cn O P t)(g:∀a,P a->Cn O R (w a)):Cn O R (t.bind w):=by induction t with|ret a=>show g a h|ask i j k c=>show⟨h.1,h.2.1,λb=>c b (h.2.2 b)⟩
def Cn.run{P}(g){t:KasT c}(h:Cn O P t):P (runK g t):=by induction t with|ret a=>show h|ask i j k b=>show b _ (h.2.2 _)
def DE(O:Nat)(p:Array Nat):Prop:=p.Perm (List.range O).toArray
def DE.lt(h:DE O p)(b:0<O)(k):p.getD k 0<O:=by
 by_cases a:k<p.size;·skip;show J (by simp[Array.getD,a]:p.getD k 0=p[k]) ?_;simpa using h.mem_iff.mp (Array.getElem_mem a)
 ·skip;show J (by simp[Array.getD,a]:p.getD k 0=0) ?_;show b
def DE.rev(h:DE O p)(i j):DE O (kas_rev p i j):=(mirror_perm _ _ _ _).trans h
def DE.Zv(h:DE O p)(i j):DE O (bubble p i j):=(bubble_perm _ _ _).trans h
end
section
mutual
open A
variable{O:Nat}(d:0<O)
include d
theorem Cn.ite{P}{c}[Decidable c]{a b:KasT g}(e:Cn O P a)(f:Cn O P b):Cn O P (if c then a else b):=by
 by_cases h:c;·show J (AG h) ?_;show e
 ·show J (AF h) ?_;show f
theorem Uy(h:DE O p)(w):∀n,Cn O (λc=>True) (kas_asc p w n):=by induction w with|zero=>showλn=>trivial|succ w a=>showλn=>.ask (h.lt d _) (h.lt d _) λb=>.ite d trivial (a _)
theorem dh(w):∀p n q,DE O p->Cn O (λr=>DE O r.1) (kas_desc w p n q):=by induction w with|zero=>showλp n q h=>h|succ w a=>showλp n q h=>.ask (h.lt d _) (h.lt d _) λb=>.ite d (.ite d (a _ _ _ (h.rev _ _)) (a _ _ _ h)) (.ask (h.lt d _) (h.lt d _) λc=>.ite d h (a _ _ _ h))
theorem U0(h:DE O p)(n m):Cn O (λr=>DE O r.2) (kas_tail3 n m p):=(Uy d (h.rev _ _) _ _).bind λa a=>.ret (h.rev _ _)
theorem Uz(h:DE O p)(n m):Cn O (λr=>DE O r.2) (kas_descPart n m p):=(dh d _ _ _ _ h).bind λr a=>.ite d (U0 d (a.rev _ _) _ _) (U0 d a _ _)
theorem dg(h:DE O p)(m):Cn O (λr=>DE O r.2) (kas_count m p):=(Uy d h _ _).bind λn a=>.ite d h (.ite d (.ask (h.lt d _) (h.lt d _) λb=>.ite d h (Uz d (h.rev _ _) _ _)) (Uz d h _ _))
theorem di(h:DE O p)(k)(w):∀l r,Cn O (λc=>True) (kas_place p k w l r):=by induction w with|zero=>showλl c=>trivial|succ w a=>showλl r=>.ite d trivial (.ask (h.lt d _) (h.lt d _) λb=>.ite d (a _ _) (a _ _))
theorem df(w):∀p k,DE O p->Cn O (DE O) (kas_bin w p k):=by induction w with|zero=>showλp a h=>h|succ w b=>showλp k h=>(di d h k _ _ _).bind λa a=>b _ _ (h.Zv _ _)
theorem Nk(n)(b:n=O):Cn O (DE O) (kas_sort n):=by subst b;show(dg d (Array.Perm.refl _) n).bind λr a=>.ite d (df d _ _ _ a) a
end
end
mutual
open A
def fM{b:Type}(u)(H:b):(List.range u.length).map (λi=>u.getD i H)=u:=by show List.ext_getElem (by simp) λi a c=>?_;simp at a;simp[a]
def W0(u):(OT u).Perm u:=by
 unfold OT;split;·show List.Perm.refl _
 ·rename_i h;have a:=(Nk (AZ (A1 _) (DP h)) _ rfl).run λi j=>ltV (u.getD i .none) (u.getD j .none);have b:=by have:=Array.perm_iff_toList_perm.mp a;assumption
  have:=b.map λi=>u.getD i V.none;rwa[fM]at this
end
section
mutual
open A
variable{f v q:St}{d Y u:Mu}{s k m:Shared}{C:Cx}{A:Around}{h l p:Heap}{y:PySem.Env}{e r:Env}
def Cn.wp{P:D->_}{g}{o}{Q}{b}(w:∀i j s(K),i<O->j<O->Dg b s->(∀k,Dg b k->K (g i j) k)->o i j K s):∀{t},Cn O P t->∀s,Dg b s->(∀k,Dg b k->Q (runK g t) k)->t.kasWp o Q s:=by intro t;induction t with|ret a=>showλh s n c=>c s n|ask i j B z=>showλh s n c=>w i j s _ h.1 h.2.1 n λk x=>z _ (h.2.2 _) k x c
def e1{D:List _}(N:s.heap.get? a=some (seqObj "list" D.toArray n))(E:D.length<64)(AC:2<=D.length)(At:∀l(K),(∀b o,b≠a->s.heap.get? b=some o->l.get? b=some o)->(∀k,Dg {s with heap:=l} k->K j k)->wpAny (model C.prog C.w) A (keyKind' D.toArray) K T {s with heap:=l})(Ch:∀i x(k)(K),i<D.length->x<D.length->(∀b o,b≠a->s.heap.get? b=some o->k.heap.get? b=some o)->(∀m,Dg k m->K (g i x) m)->wpAny (model C.prog C.w) A (keyLt' j (D.getD i Value.none) (D.getD x Value.none)) K (λt t=>False) k)(h:∀l tk c,(∀b o,b≠a->s.heap.get? b=some o->l.get? b=some o)->l.get? a=some (seqObj "list" ((runK g (kas_sort D.length)).toList.map λi=>D.getD i Value.none).toArray c)->P (.done (.ret .none)) {s with heap:=l,toks:=tk}):wpAny (model C.prog C.w) A (Builtin.«list.sort» ⟨[.ref a],[]⟩) P T s:=by
 rw[list_sort_plain];show AA (listItems_at N rfl (AA (listUpdate_at N rfl ?_ (J LC (J sizeLine_eq (AQ (BH E) (Ay _ _)))) (De _))));obtain⟨B,e⟩:∃B,(s.heap.update a _).get? a=some (seqObj _ _ B):=⟨_,get?_update_seq N λt=>_⟩;show AA (seqEpoch_at e rfl (AA (wpAny_newTuple (AA (wpAny_newList (Cs ?_) (De _))) (J sizeLine_eq (AQ (BH E) (Ay _ _))))));generalize d:((s.heap.update a (Obj.mapSeq λt=>(#[]:Array Value))).push _).push _=H;have O:H.get? a=some (seqObj "list" #[] B):=by show Mine.AU d (A7 _ (A7 _ e))
 have M:∀b o,_->_->H.get? b=_:=λb o G w=>by show Mine.AU d (A7 _ (A7 _ ((FN _ a _).extBut b o G w)))
 have I:¬D.toArray.size<2:=J LC (LH AC);show J (AF I) (J (AF I) (AA (At H _ M λv Do=>?_)));have Ev:wpAny (model C.prog C.w) A ((sortRuns').run (SortSt.mk' j (D.toArray.zip D.toArray) #[] 7 none)) (λu k=>arrOf u.2=(runK g (kas_sort D.length)).map (kas_item (D.toArray.zip D.toArray))/\failedOf u.2=none/\Dg {s with heap:=H} k) T v:=by show kat_run (Q:=λst k=>arrOf st=_/\_/\Dg _ k) (G:=λr k=>r=_/\_) rfl AC E (λr FM k B y Y Q=>⟨J y (J Q.1 rfl),Y,Q.2⟩) ((Nk (AZ (A1 _) (DP I)) D.length rfl).wp (λi x s2 K W X f F=>Ac f λt2 z=>?_) v Do λk Db=>⟨rfl,Db⟩);(try clear f);obtain rfl:=z;show Ch i x _ K W X M λs3 q=>F s3 (by(show Ac q λt3 z=>?_;(try clear q);obtain rfl:=z);show⟨_,rfl⟩)
 show AA (BW Ev ?_ λt t w=>w);rintro⟨⟨⟩,FM⟩s2⟨R,V,p⟩;show Ac p λt2 z=>?_;(try clear p);obtain rfl:=z;show AA (seqEpoch_at O rfl ?_);have Z:=kat_snds (ks:=D) (vs:=D) rfl R;show J Z ?_;have EQ:(runK g (kas_sort D.length)).size=D.length:=by have:=(Nk (O:=D.length) (AZ (A1 _) (DP I)) D.length rfl).run g;have:=this.size_eq;simpa using this
 show AA (listUpdate_at O rfl ?_ (De _) (by simp only[LC,Al,Ip,EQ];show J sizeLine_eq ?_;show lf E (by simp+arith)));show J V ?_;simp only[M4,Bool.false_eq_true,if_false];obtain⟨L,S⟩:∃L,(H.update a _).get? a=some (seqObj "list" (List.toArray ((runK g (kas_sort D.length)).toList.map λi=>D.getD i Value.none)) L):=⟨_,get?_update_seq O λt=>_⟩;show AW (h _ _ L (λb o G w=>(FN H a _).extBut b o G (M b o G w)) S)
end
end
mutual
open A
noncomputable def insI(x:Int):List Int->List Int|[]=>[x]|y::a=>if x<y then x::y::a else y::insI x a
def sortI:List Int->List Int|[]=>[]|x::a=>insI x (sortI a)
def eE(x):∀ys:_,QW (.int x) (ys.map .int)=(insI x ys).map .int:=by intro ys;induction ys with|nil=>show rfl|cons y ys a=>
  show(?_:(if decide (x<y)=_ then _ else _)=(if x<y then _ else _:List _).map _);by_cases h:x<y;·show J (AG h) (J (AG (BC h)) rfl)
  ·show J (AF h) (J (AF (by simp[h])) (J a rfl))
def VN(h:x<A):insI x (A::ys)=x::A::ys:=AG h
def VM(h:¬x<A):insI x (A::ys)=A::insI x ys:=AF h
def OU(u):Rh (u.map .int)=(sortI u).map .int:=by induction u with|nil=>rfl|cons x u a=>show(AE _ a).trans (eE x _)
def insI_perm(x)(ys):(insI x ys).Perm (x::ys):=by induction ys with|nil=>show .refl _|cons y ys a=>
  by_cases h:x<y;·show VN h▸.refl _
  ·show VM h▸(a.cons y).trans (.swap x y ys)
def sortI_perm:∀u,(sortI u).Perm u:=by intro u;induction u with|nil=>show .refl _|cons x u a=>show(insI_perm x _).trans ((a).cons x)
def eD(x)(ys):ys.Pairwise (·<=·)->(insI x ys).Pairwise (·<=·):=by induction ys with|nil=>showλg=>List.pairwise_singleton _ _|cons y ys f=>
  intro h;have d:=Jv.mp h;by_cases c:x<y;·show VN c▸Jv.mpr ⟨λa b=>(BU.mp b).elim (λe=>e▸D6 c) λb=>BE (D6 c) (d.1 a b),h⟩
  ·show VM c▸Jv.mpr ⟨λa b=>(BU.mp ((insI_perm x ys).mem_iff.mp b)).elim (λe=>e▸Int.not_lt.mp c) (d.1 a),f d.2⟩
def Rg:∀u,(sortI u).Pairwise (·<=·):=by intro u;induction u with|nil=>show .nil|cons x u a=>show eD x _ (a)
def W2(e:ys.Perm u)(f:ys.Pairwise (·<=·)):ys=sortI u:=(e.trans (sortI_perm u).symm).eq_of_pairwise (λa b g g c d=>Gx c d) f (Rg u)
def all_ints:∀{u},u.all Qe=true->∃a:List _,u=a.map .int:=by intro u;induction u with|nil=>intro d;show⟨[],rfl⟩|cons x u b=>intro h;rw[H7,Ct]at h;show Ac (b h.2) λa c=>?_;clear b;obtain rfl:=c;show Ac (CG.mp h.1) λi e=>⟨i::a,J (int_is e) rfl⟩
end
section
mutual
open A
variable{f z l:St}{d Y r:Mu}{s g E:Shared}{C:Cx}{A:Around}{h b k:Heap}{y:PySem.Env}{e o:Env}
def AM.VQ:∀{D},AM f d h (i.map .int) D->IntsAre D i:=by induction i with|nil=>showλq=>q.n▸.nil|cons n i m=>showλ{D}q=>q.c (G:=λD=>IntsAre D _) λv p a j=>a.i rfl (G:=λv=>IntsAre (v::p) _) λt=>.cons _ t (m j)
def AM.ofInts(q:IntsAre D i):AM f d h (i.map .int) D:=by induction q with|nil=>show .nil|cons _ _ _ a=>show .cons (.int _ _) a
def S'(j:Nt X=true){m:Prop}(B:∀n p,X=.tup [.str "bit",.int n,.bool p]->m):m:=(CG.mp j).elim λc j=>oB j λD w j=>by cases D with|nil=>show AS j|cons G c=>cases c with|nil=>show AS j|cons a c=>cases c with|nil=>show AS j|cons p c=>cases c with|cons _ _=>show AS j|nil=>show oB j λs v j=>have x:=(oT j).1;oB (oT j).2 λi u j=>(By.mp j).elim λq t=>B i q (J (tup_is w) (J (str_is v) (J x (J (int_is u) (J (TF t.1) rfl)))))
def K1(h:Heap)(v:Value)(n:Int)(p:Bool):Prop:=∃c t1 t2 a i,v=.ref c/\h.get? c=some a/\a.cls=.type "tuple"/\a.data=.seq #[.str "bit" t1,.int n t2,.bool p] i
def S8(q:VR f d h (.tup [.str "bit",.int n,.bool p]) v):K1 h v n p:=q.t rfl (G:=λv=>K1 h v n p) λM H G u i u u=>by obtain⟨N,D,x,I,B⟩:=G;show i.c (G:=λL=>_->_) (λv j a i=>i.c (G:=λj=>_=v::j->_) λO j t i=>i.c (G:=λj=>_=v::O::j->_) λQ j c i w=>Ac a.is λt1 m=>?_) rfl;clear a;obtain rfl:=m;show Ac t.is λt2 m=>?_;clear t;obtain rfl:=m;show⟨M,t1,t2,N,I,rfl,D,x,J B (Mine.AU (Array.toArray_toList (xs:=H)) (J w (J i.n (J c.is rfl))))⟩
def Za{p}{K}(j:K1 s.heap B n p)(t:K1 s.heap v m q)(c:K (decide (n<m)||n==m&&!p&&q) s):wpAny (model C.prog C.w) A (keyLt' (tuples' true) B v) K (λI I=>False) s:=by
 show SJ j λQ t1 t2 b N i x L u=>?_;(try clear j);obtain rfl:=i;show SJ t λT G H d O i D M w=>?_;(try clear t);obtain rfl:=i;show kat_lt x u D w (kat_cons (SeqAt.EqAt.str_str _ _ _ _ _ _ _ _ (kat_yes (kat_cons (SeqAt.EqAt.int_int _ _ _ _ _ _ _ _ ?_)))));show kat_go (λa=>?_) λa=>?_
 ·have:=by simpa using a
  subst this;show kat_yes (kat_cons (SeqAt.EqAt.bool_bool _ _ _ _ _ _ ?_));show kat_go (λa=>?_) λa=>?_
  ·have:=by simpa using a
   subst this;show kat_yes (kat_nil ?_);have:(decide (n<n)||n==n&&!p&&p)=decide ((#[Value.str "bit" t1,.int n t2,.bool p]).size<(#[Value.str "bit" G,.int n H,.bool p]).size):=by cases p<;>simp
   show Mine.AU this ?_;show c
  ·show kat_no (kat_one _ _ (PyProof.Rows.lt_bool ?_));have:decide (b2i p<b2i q)=(decide (n<n)||n==n&&!p&&q):=by cases p<;>cases q<;>simp[b2i]at a⊢
   show J this ?_;show c
 ·skip;show kat_no (kat_one _ _ (wpAny_lt_int ?_));have:(decide (n<m)||n==m&&!p&&q)=decide (n<m):=by simp[by simpa using a]
  show Mine.AU this ?_;show c
def e7(n m)(p q):ltV (.tup [.str "bit",.int n,.bool p]) (.tup [.str "bit",.int m,.bool q])=(decide (n<m)||n==m&&!p&&q):=by rfl
def Zd:∀{D},u.all Nt=true->AM f d h u D->∃a,KatTups h D a/\a.length=D.length/\∀w∈a,∃x t,w=Value.str x t:=by induction u with|nil=>showλN q=>q.n▸⟨[],.nil,rfl,λN h=>absurd h Cu⟩|cons x u L=>intro D c q;rw[H7,Ct]at c;show q.c (G:=λD=>∃a,KatTups h D a/\a.length=D.length/\∀w∈a,∃x t,w=Value.str x t) λv g q M=>S' c.1 λn p O=>?_;obtain rfl:=O;show SJ (S8 q) λb t1 t2 e T Q I B G=>?_;clear q;obtain rfl:=Q;show B3 (L c.2 M) λa j m h3=>⟨.str _ t1::a,.cons I B G rfl j,AE (·+1) m,λw H=>(BU.mp H).elim (λi=>⟨_,_,i⟩) (h3 w)⟩
def S9(w:u.all Nt=true)(q:AM f d h u D)(a:i<D.length){j:Prop}(x:∀n p,u.getD i .none=.tup [.str "bit",.int n,.bool p]->K1 h (D.getD i .none) n p->j):j:=by
 have v:=q.length;have c:=AZ a (AY v.symm);show S' (DD.mp w _ (LA c)) λn p m=>?_;have t:=q.get i c a;rw[m]at t;show x n p (by simp[c,m]) ?_;have:D.getD i .none=D[i]:=by simp[a]
 show J this (S8 t)
def Mp(a:Addr)(h b:Heap):Prop:=∀c i,c≠a->h.get? c=some i->b.get? c=some i
def W3(M:s.heap.get? a=some (seqObj "list" D.toArray n))(I:∀b,Mp a s.heap b->AM f d b u D)(j:DC u=some ys)(h:∀b tk c At,Mp a s.heap b->b.get? a=some (seqObj "list" At.toArray c)->AM f d b ys At->P (.done (.ret .none)) {s with heap:=b,toks:=tk}):wpAny (model C.prog C.w) A (Builtin.«list.sort» ⟨[.ref a],[]⟩) P T s:=by
 unfold DC at j;have Z:=I _ λe e e j=>j;have B:=Z.length;split at j
 ·rename_i F;have k:=Ai (AY B.symm) F;split at j;·rename_i m;show Ac (all_ints m) λAC Y=>(λAC Y j=>by clear I B F m;subst Y;(have w:=AP j;clear j;clear j;subst w);show list_sort_tree M Z.VQ k λJP Ix Db p h3=>?_;rw[OU,<-W2 p h3]at h;show Ac (sortedHeap_at M) λc Ev=>h _ _ c _ (λO Q q j=>J (sortedHeap_old q (Ci j)) j) (J Array.toArray_toList Ev) (AM.ofInts Db)) AC Y j
  ·split at j
   ·rename_i q;(have w:=AP j;clear j;subst w);unfold OT at h;have p:2<=u.length\/u.length<2:=(Nat.lt_or_ge _ 2).symm;rcases p with p|p
    ·rw[AF (LH p)]at h;show e1 (j:=tuples' true) (g:=λi N=>ltV (u.getD i .none) (u.getD N .none)) M k (AQ p (AY B)) (λb K G o=>?_) (λi N g K m y G o=>?_) λb tk c G W=>?_;·show B3 (Zd q (I _ G)) λGo h3 Do EQ=>kat_kind (T:=.type "str") h3 (AZ (AZ (AZ (A1 _) p) (AY B)) (AY Do.symm)) (λv V=>(Eb (EQ v V) λx t Gc=>?_)) (by decide) (o _ (.refl _));clear V;obtain rfl:=Gc;show .now
     ·show S9 q (I _ G) m λH1 M2 w b1=>S9 q (I _ G) y λIN NE Ch b2=>Za b1 b2 ?_;have:=o g (.refl _);rw[w,Ch,e7]at this;show this
     ·rw[<-B]at W;have Fk:=I _ G;show h b tk c _ G W ?_;have r:∀i∈_,_:=λi m=>by have Fa:=(Nk (AZ (A1 _) p) _ rfl).run (λi N=>ltV (u.getD i .none) (u.getD N .none));have:=Fa.mem_iff.mp (Array.mem_def.mpr m);simpa using this
      generalize(runK _ (kas_sort _)).toList=L at r;induction L with|nil=>show .nil|cons i L Fs=>have m:=r i AR;(show J Fq ?_;show J Fq ?_;show J (by simp[m]:u.getD i .none=u[i]) ?_;show J (by have:=AZ m (AY B);simp[this]:D.getD i .none=D[i]'(AZ m (AY B))) ?_);show .cons (Fk.get i m (AZ m (AY B))) (Fs λN y=>r N (Ah _ y))
    ·rw[AG p]at h;rw[list_sort_plain];show AA (listItems_at M rfl (AA (listUpdate_at M rfl ?_ (J LC (J sizeLine_eq ((AQ (BH k) (Ay _ _))))) (De _))));obtain⟨w,X⟩:∃w,(s.heap.update a _).get? a=some (seqObj _ _ w):=⟨_,get?_update_seq M λe=>_⟩;show AA (seqEpoch_at X rfl (AA (wpAny_newTuple (AA (wpAny_newList (Cs ?_) (De _))) (J sizeLine_eq ((AQ (BH k) (Ay _ _)))))));generalize R:((s.heap.update a (Obj.mapSeq λe=>(#[]:Array Value))).push _).push _=H;have E:H.get? a=some (seqObj "list" #[] w):=by show Mine.AU R (A7 _ (A7 _ X))
     have FS:Mp a _ H:=λO Q q j=>by show Mine.AU R (A7 _ (A7 _ ((FN _ a _).extBut O Q q j)))
     have z:D.toArray.size<2:=J LC ((Ai (AY B.symm) p));show J (AG z) (J (AG z) (AA (AW (AA (AW ?_)))));dsimp only;show AA (seqEpoch_at E rfl ?_);show J (by show(?_:(D.toArray.zip _).map _=_);apply Array.toList_inj.mp;simp[List.map_snd_zip]:(arrOf (SortSt.mk' general' (D.toArray.zip D.toArray) #[] 7 none)).map (·.2)=D.toArray) ?_;show AA (listUpdate_at E rfl ?_ (De _) (J LC (J sizeLine_eq ((AQ (BH z) (Ay _ _))))));simp only[M4,Bool.false_eq_true,if_false];obtain⟨l,FM⟩:∃l,(H.update a _).get? a=some (seqObj _ _ l):=⟨_,get?_update_seq E _⟩;have S:=λO Q q j=>(FN H a (Obj.mapSeq λe=>D.toArray)).extBut O Q q (FS O Q q j);show AW (h _ _ l D S FM (I _ S))
   ·show AS j
 ·show AS j
end
end
def Ri(j:DC u=some ys):ys.Perm u/\u.length<64:=⟨oI (oT j).2 (λb j=>(all_ints b).elim λa c=>AP j▸c▸OU a▸(sortI_perm a).map _) λd j=>AP (oT j).2▸W0 u,(oT j).1⟩
section
mutual
open A
variable{f g p:St}{d Y r:Mu}{s b t:Shared}{C:Cx}{A:Around}{h a i:Heap}{y:PySem.Env}{e q:Env}
def SX(C:Cx)(A:Around)(f:St)(d:Mu)(s:Shared)(x:Value)(u:List V):Prop:=∀(Q:List Value->Shared->Prop)(E:Value->Shared->Prop),(∀a l k j,(∀c o,s.heap.get? c=some o->a.get? c=some o)->AM f d a u j->Q j {s with heap:=a,toks:=l,drawn:=k})->wpAny (model C.prog C.w) A (collect x) Q E s
def Xl(C:Cx)(A:Around)(f:St)(d:Mu)(s:Shared)(x:Value)(ys:List V):Prop:=∀(Q:List Value->Shared->Prop)(E:Value->Shared->Prop),(∀a m l j k,(∀c o,s.heap.get? c=some o->a.get? c=some o)->AM f d a k j->DC k=some ys->Q j {s with heap:=a,toks:=m,drawn:=l})->wpAny (model C.prog C.w) A (collect x) Q E s
def W6(E:Xl C A.in1 f d s x ys)(I:Inv C f d s):wpAny (model C.prog C.w) A (call (.builtin "sorted") [x]) (λv b=>Ab C f d s.heap (.lst ys) f v b) E0 s:=by
 show Calls.call_function_entry kind_sorted rfl entry_sorted (args_sorted1 _) (AA (AW (AA (E _ _ λl h e u p n D k=>AV (Ri k) λO w=>?_))));have L:=D.length;show AA (wpAny_newList ?_ (J sizeLine_eq (AQ (AY L.symm) (AQ (BH w) (Ay _ _)))));have B:(l.push _).get? _=some (seqObj "list" u.toArray 0):=B4 _ rfl;have G:∀j o,_->(l.push {cls:=.type "list",data:=.seq u.toArray}).get? j=_:=λj o k=>A7 _ (n j o k);have T:s.heap.get? l.objs.size=none:=by cases z:s.heap.get? l.objs.size with|none=>rfl|some o=>show absurd (Ci (n _ _ z)) (HU _)
 have M:∀a,Mp _ (l.push {cls:=.type "list",data:=.seq u.toArray}) a->_:=λa m=>D.keeps λj o k=>m j o (Av (Ci k)) (A7 _ k);show AA (Cs (FH slot_list_sort ⟨_,B,rfl⟩ entry_list_sort (W3 B M k λa g c i m N Q=>⟨_,rfl,?_⟩) (args_list_sort _)));have H:∀j o,s.heap.get? j=some o->a.get? j=some o:=λj o k=>m j o (Av (Ci (n j o k))) (G j o k);show AW ⟨_,rfl,Ab.keeps I H (.lst ⟨_,N,rfl,_,rfl⟩ (I.Ff T) (by simpa using Q) ?_)⟩;have:=O.length_eq;show AQ (AY this) (AQ (BH w) (Ay _ _)) 
def Rj(k:SX C A.in1 f d s x u)(I:Inv C f d s)(j:DC u=some ys):wpAny (model C.prog C.w) A (call (.builtin "sorted") [x]) (λv b=>Ab C f d s.heap (.lst ys) f v b) E0 s:=W6 (λQ E m=>k Q E λa o c w l n=>m a o c w u l n j) I
def Tg(k:B="list"\/B="tuple")(z:s.heap.get? l=some o)(v:o.cls=.type B)(w:o.data=.seq m n)(j:AM f d s.heap u m.toList)(x:u.length<=lim):SX C A f d s (.ref l) u:=by intro Q E D;show wpAny_collect_seq l k z v w (λa c=>D a _ _ _ c (j.keeps c)) (by have:=E';show AQ (j.fit x).1 this)
def ei:∀(z:List (SK×Mine.V))(c:List (SK×Value))(D),z.map (·.1)=c.map (·.1)->D.length=c.length->(∀(n:Nat)(v),D[n]?=some v->∃k x,c[n]?=some (k,x)/\SK.Fb k v=true)->AM f d h (z.map λj=>HF j.1) D:=by intro z;induction z with
 |nil=>intro c D l m _;cases c with
  |nil=>cases D with|nil=>show .nil|cons _ _=>show(by cases m)
  |cons _ _=>show(by cases l)
 |cons I z H=>intro c D l m h3;cases c with|nil=>show(by cases l)|cons L c=>cases D with|nil=>show(by cases m)|cons v D=>have u:=List.cons.inj l;show Cg (h3 0 v rfl) λk x B E=>.cons (show VR f d h (HF _) v from((AE Prod.fst (AP B)).symm.trans u.1.symm:k=I.1)▸SK.el E (G:=λk v=>VR f d h (HF k) v) (λo o=>.int _ _) λo o=>.str _ _) (H c D u.2 (Ew m) λn w G=>h3 (n+1) w G)
def ZN:Et .sorted (.builtin "sorted"):=.of rfl λC A f d s R Z V F p W I D u=>D.one u λx v D u=>oB u λg k u=>oM u (G:=λV=>Bd C A f d s V _ _) λP m=>by have b:∀{g}{M}{H},DC g=some P->s.heap.IsList M H->_->_->Bd C A f d s _ _ _:=λm B c l=>B.elim λo z=>z.2.2.elim λn w=>Rj (Tg (.inl rfl) z.1 z.2.1 w c l) I m;cases x with|tup e=>show D.t rfl (G:=λv=>Bd C A f d s _ _ [v]) λM H B i c l L=>B.elim λo z=>z.2.2.elim λn w=>Rj (Tg (.inr rfl) z.1 z.2.1 w c l) I (AP k▸m)|lst e=>show D.l rfl (G:=λv=>Bd C A f d s _ _ [v]) λM H B i c l=>b (AP k▸m) B c l|ref n=>show D.r rfl (G:=λv=>Bd C A f d s _ _ [v]) λL=>JS k (λe G k=>I.list G λH l c N=>b (AP k▸m) l c N) (λh X G k=>BG (I.objs n _ G) λK N L=>?_) λL L=>nS;rcases K with⟨y,w,T⟩;have r:=T.length;show Rj (λQ E t=>kdu_collect (kdl_dict (IT F I (DK G))) p w (AQ (AY r.symm) (AQ N E')) λa Y S q O=>t a Y _ _ q (ei h y _ T.keys (J Ip O.1) λj v c=>O.2 j v (by simpa using c))) I (AP k▸m)|_=>show AS k
def Zi:Jl .sort:=by intro C A f g d s n e K V F q r I Q k;cases Q with|cons _ _=>show AS k|nil=>show oB (show(listAt f n).bind _=_ from k) λP l k=>?_;have l:=Ho l;show AJ (By.mp k) λw x G=>BG (I.objs n _ l) λb H j=>?_;rcases b with⟨t,⟨c,B⟩,N⟩;show AV (Ri x) λM p=>?_;have m:=DK l;show oP (AE _ G) (G:=λV g=>Jw C A f d s "list.sort" _ V g []) (FH slot_list_sort ⟨_,B,rfl⟩ entry_list_sort (W3 (J Array.toArray_toList B) (λa u=>N.but (Off.own m) u) x λa y E T u v O=>⟨_,rfl,?_⟩) (args_list_sort _));have D:=u;have L:OR C (f.set n (.list w)) d a n (.list w):=⟨⟨T.toArray,⟨E,v⟩,O.own (j:=.list w) (Y:=d) m (.inl rfl) (λh o j k=>k) λj=>⟨rfl,rfl⟩⟩,AQ (AY M.length_eq) H,(I.objs n _ l).2.2⟩;show⟨d,I.own m (.inl rfl) D (J v rfl) (λj=>⟨rfl,rfl⟩) (λj j=>rfl) L,Step.own I.lt m (.inl rfl) D (J v rfl) (λj=>⟨rfl,rfl⟩) (λj j=>rfl) λi Y z=>nd rfl z,.none⟩
end
end
mutual
open A
def OD:plainId "dict.update.loop"=true:=by decide+kernel
def UR:entryFor table "dict.update.loop"=some Builtin.«dict.update.loop»:=entryFor_of_fast (by kernel_rfl)
def fb:typeLookup (.type "tuple") "keys"=pure none:=am_miss_of_fast (by decide+kernel)
end
section
mutual
open A
variable{f H O:St}{d Y Db:Mu}{s E Do:Shared}{C:Cx}{A:Around}{h g M B:Heap}{y:PySem.Env}{e Ch:Env}{I N l:Addr}{m:Array Value}
set_option maxRecDepth 100000 in
def ee{Q:Option Value->Shared->Prop}{T:Value->Shared->Prop}(L:A.handled=none){o:Obj}{n:Nat}(p:s.heap.get? l=some o)(i:o.cls=.type "tuple")(j:o.data=.seq m n)(k:o.dict=none)(w:∀g tk,(∀b o,s.heap.get? b=some o->g.get? b=some o)->Q none {s with heap:=g,toks:=tk}):wpAny (model C.prog C.w) A (getAttr? (.ref l) "keys") Q T s:=by
 obtain⟨c,D,z,x⟩:=o;simp only at i j k;subst i j k;obtain⟨v,u,t,tk,os⟩:=s;have a:∀r,(⟨v,u,t,r,os⟩:Shared).TypeIs (.ref l) "tuple":=λH=>⟨_,p,rfl⟩;have d:=sub_AttributeError;have e:=Sq.lookup;have f:=Sq.bind (.ref l);have h:=am_tuple_getattr_none;repeat(any_goals(first|assumption|show a _|((with_reducible show(?_:wpAny _ _ (call (Value.builtin "tuple.__getattribute__") _ _) _ _ _));show call_meets Sq (a _) am_entry_tuple_getattribute (PySem.F.args_tuple_getattribute_2 _ _) (meets_getattribute_miss_tuple l m n x "keys" _ fb (by decide+kernel) (by decide+kernel)) ⟨p,L,λg r G q=>?_⟩)|wp_step))
 show Eb q.there λB E y=>(?_:wpAny _ _ (getattributeRaised _ _ _ _ _ _ _) _ _ _);repeat(any_goals(first|assumption|wp_step))
 all_goals show w _ _ q.keeps
def gR{K X:V}(q:VR f d h (.tup [K,X]) v):∃a k x o n,v=.ref a/\h.get? a=some o/\o.cls=.type "tuple"/\o.data=.seq #[k,x] n/\VR f d h K k/\VR f d h X x:=q.t rfl (G:=λv=>∃a k x o n,v=.ref a/\h.get? a=some o/\o.cls=_/\o.data=.seq #[k,x] n/\VR f d h K k/\VR f d h X x) λa u t c b c c=>t.elim λo z=>z.2.2.elim λn j=>b.c (G:=λL=>_->_) (λk r p b=>b.c (G:=λr=>_=k::r->_) λx D w b i=>⟨a,k,x,o,n,rfl,z.1,z.2.1,J j (Mine.AU (Array.toArray_toList (xs:=u)) (J i (J b.n rfl))),p,w⟩) rfl
def jm{w}{r:a}(j:two D w=some r):∃k x,D=[k,x]/\w k x=some r:=by cases D with|nil=>show AS j|cons k D=>cases D with|nil=>show AS j|cons x D=>cases D with|nil=>show⟨k,x,rfl,j⟩|cons _ _=>show AS j
def WL(j:HE (x::u)=some i){G:Prop}(k:∀K X k r,x=.tup [K,X]->Ht K=some k->HE u=some r->i=(k,X)::r->G):G:=oB j λn b j=>(jm j).elim λK z=>z.elim λX z=>oB z.2 λc a j=>(By.mp j).elim λr w=>k K X c r ((tup_is b).trans (AE _ z.1)) a w.1 w.2.symm
def pairs_len:∀{u}{b},HE u=some b->b.length=u.length:=by intro u;induction u with|nil=>showλa=>AP a▸rfl|cons x u j=>showλa=>WL a λK X k r n n c i=>i▸AE _ (j c)
def gS(Fk:A.handled=none)(Fs:B.get? I=none)(At:B.get? N=none)(AC:I≠N){R}(u):∀(T)(k)(s)(i)(t)(c)(z),HE u=some T->AM f d B u (m.toList.drop k)->(∀b o,B.get? b=some o->s.heap.get? b=some o)->IsTupIter s.heap N l k->IsTup B l m->s.heap.DictOf (Fe C.prog C.w) I c->CN f d B z c->(c.map (·.1)).Nodup->c.length+u.length<=lim->(∀g tk EQ,(∀b o,B.get? b=some o->g.get? b=some o)->g.DictOf (Fe C.prog C.w) I EQ->CN f d B (T.foldl (λz p=>DZ z p.1 p.2) z) EQ->R (.ok (.ret .none)) {s with heap:=g,toks:=tk})->codeAny (model C.prog C.w) A (.builtin "dict.update.loop" ⟨[.ref I,.ref N,.int i t,.none],[]⟩) R s:=by induction u with|nil=>intro T k s i t c z F P D E Q y M Y L h;cases AP F;have O:IsTup s.heap l m:=Q.elim λo q=>⟨o,D _ _ q.1,q.2⟩;show JC UR (J (Jh OD _) ((AA (next_tuple_end (by simpa using Fk) E O (Mi▸drop_nil P.n) λg G=>?_))));show AA (AW (AW (h g _ c (λb o j=>G b o (by rintro rfl;rw[At]at j;show AS j) (D b o j)) (HH y λo e w v r=>?_) M)));(skip);show⟨o,e,w,G I o AC v,r⟩|cons x u No=>
  intro T k s i t c z F P D E Q y M Y L h;have O:IsTup s.heap l m:=Q.elim λo q=>⟨o,D _ _ q.1,q.2⟩;show B3 P.drops λTE Ev M2 NE=>WL F λK X W Ok Fa FM FS w=>?_;subst Fa w;show JC UR (J (Jh OD _) ((AA (next_tuple_item E O Ev λg Ix G=>?_))));have H:=λb o j=>G.extBut b o (by rintro rfl;rw[At]at j;show AS j) (D b o j);show kT (gR M2) λa Sc Z o n Ps v Gc IN On Op=>?_;obtain rfl:=Ps;show AA (Cs (AA (wpAny_tryCatch (AA (wpAny_typeOf ⟨o,H _ _ v,Gc⟩ (J (AG (by decide)) (AA (Gq (H _ _ v) IN (AW ((Cs ?_)))))))))));have S:=Kh On FM;have Go:g.DictOf (Fe C.prog C.w) I c:=by show HH y λo e w v r=>?_;(skip);show⟨o,e,w,G.extBut I o AC v,r⟩
  show Cs (AA ((Fe _ _).pyHash S ?_));have Rs:=E';show wpAny_dictSetHashed_pairs S (s:={s with heap:=g,toks:=s.toks+1}) Go (λRe H1 V=>AW ⟨plainId_quiet OD _,?_⟩) (by simp at L;show(AQ (AQ (A2 _ _) L) (E')));have JP:(PySem.stored c W Z).length<=c.length+1:=by unfold PySem.stored;split<;>simp
  show No Ok _ _ _ 0 _ _ FS NE (λb o j=>V.extBut b o (by rintro rfl;rw[Fs]at j;show AS j) (H b o j)) (Ix.elim λo q=>⟨o,V.extBut N o (CE AC) q.1,q.2⟩) Q H1 (M.stored Y Op) (XA Y W Z) (by simp at L;show(lf JP (lf L (by simp+arith)))) h
def bJ(L:A.handled=none)(t:Inv C f d s)(AC:HE u=some i)(At:u.length<lim)(Ev:IsTup s.heap l m)(FM:AM f d s.heap u m.toList)(EQ:∃o,s.heap.get? l=some o/\o.dict=none):wpAny (model C.prog C.w) A (call (.type "dict") [.ref l]) (λv E=>Ab C f d s.heap (.ref f.next) (f.new (.dict (HC i) 0)) v E) E0 s:=by
 have D:∀b o,_->(s.heap.push {cls:=.type "dict",data:=.dict #[]}).get? b=some o:=λj j c=>A7 _ c;have p:(s.heap.push _).DictOf (Fe C.prog C.w) _ []:=Heap.DictOf.new _;show callType_codes (Q₁:=λI M=>I=.ref s.heap.objs.size/\M=_) PySem.F.kt_called_dict (PySem.F.kt_typeCall_dict_1 _) PySem.F.entry_dict_init (kt_code_dict_new _ ⟨rfl,rfl⟩) ?_;rintro I M⟨rfl,rfl⟩;show⟨p.typeIs,PySem.F.args_dict_init_2 _ _,AA (AA (wpAny_notOrdered_dict p.typeIs (AW (?_:wpAny _ _ (Builtin.Dict.updateFrom _ _ _ [] _) _ _ _))))⟩;obtain⟨o,a,k,n,x⟩:=Ev;show AJ EQ λFS S K=>?_;obtain rfl:=AP (a.symm.trans S);show AA (wpAny_typeOf ⟨o,D _ _ a,k⟩ (J (AG (by decide)) (AA (ee (by assumption) (D _ _ a) k x K λw W Q=>AA (Gp ?_)))));have T:=λb o c=>Q b o (D b o c);show AA (iter_tuple (s:={s with heap:=w,toks:=W}) ⟨o,T _ _ a,k,n,x⟩ ?_);have P:IsTupIter (w.push {cls:=_,data:=_}) _ l 0:=⟨_,B4 _ rfl,rfl,rfl⟩;show AW ⟨plainId_quiet OD _,?_⟩;show gS (by assumption) (BV _) (by cases z:s.heap.get? w.objs.size with|none=>rfl|some o=>show absurd (Ci (T _ _ z)) (HU _)) (Av (by show HH p λo2 j j e j=>?_;(skip);show Ci (Q _ _ e))) u i 0 _ 0 0 [] [] AC (by assumption) (λb o c=>A7 _ (T b o c)) P ⟨o,a,k,n,x⟩ ?_ trivial (by trivial) (by simp;show BH At) λg V Z G F R=>⟨rfl,?_⟩;·show HH p λo2 Y O e r=>⟨o2,Y,O,A7 _ (Q _ _ e),r⟩
 ·show Ac F.dictAt λh y=>?_;have H:(g.get? s.heap.objs.size).isSome=true:=by(show Cg y λo X a j=>?_;(skip));show J a ?_;rfl
  have B:=Ur i [];have N:=t.alloc (o:=.dict (HC i) 0) (l:=⟨s.heap.objs.size,s.heap.objs.size,h⟩) (tk:=V) (dr:=s.drawn) G (BV _) (BV _) H H ⟨⟨_,by rw[Mu.Bt];show y,CN.mono (λq=>q.alloc G t.lt (BV _) (BV _)) R⟩,by simp at B;show AQ B (AQ (AY (pairs_len AC)) (BH At)),by rw[Mu.Bt]⟩;show⟨_,N,Step.alloc t.lt G (BV _) (BV _),?_⟩;have:=VR.ref (σ:=f.new (.dict (HC i) 0)) (μ:=d.new f.next ⟨s.heap.objs.size,s.heap.objs.size,h⟩) (h:=g) _ (Cq _);rw[Mu.Bt]at this;show this
def ZG:Et .dict (.type "dict"):=λC A f H d s t b V F n u c q a=>q.one a (G:=λb=>wpAny _ A (call _ b) _ E0 s) λx v q a=>oB a λz j a=>oB a λw i a=>oP (oT a).2 (G:=λV H=>wpAny _ A _ (λv E=>_) E0 s) (q.t j (G:=λv=>wpAny _ A (call _ [v]) _ E0 s) λl m o r p r k=>bJ n c i (oT a).1 o p k)
end
end
mutual
open A
def Ux(u:Array _)(i H:Nat)(h):u.getD i H=u.toList[i]:=by
 have:=by simpa using h
 simp[Array.getD,this]
def Vr{l:List Nat}(c:l.Pairwise (·<·))(a)(b:k<l.length)(h:i<=k):l[i]<=l[k]:=(Nat.eq_or_lt_of_le h).elim (λe=>by clear h;subst e;show Ag _) λh=>BH (List.pairwise_iff_getElem.mp c i k a b h)
def SW(u:Array Nat)(j k:Nat):Prop:=k<=u.size/\(∀i(h:i<u.toList.length),i<k->u.toList[i]<j)/\∀i(h:i<u.toList.length),k<=i->j<=u.toList[i]
def Y8(p:u.toList.Pairwise (·<·))(j m):∀lo a:_,a<=lo+m->lo<=a->a<=u.size->(∀i(h),i<lo->u.toList[i]<j)->(∀i(h),a<=i->j<=u.toList[i])->SW u j (SetTable.below.go u j m lo a):=by induction m with|zero=>showλlo a k b d e g=>⟨AQ b d,e,GR b k▸g⟩|succ f q=>intro lo a k b d e g;show iG (λr=>?_) λs=>⟨AQ b d,e,GR b (DP s)▸g⟩;have c:_/\_:=⟨(Nat.le_div_iff_mul_le Nat.two_pos).mpr (Nat.mul_two lo▸EJ b lo),(Nat.div_lt_iff_lt_mul Nat.two_pos).mpr (Nat.mul_two a▸Nat.add_lt_add_right r a)⟩;have l:=AZ c.2 d;show iG (λn=>q _ a (AQ k (by rw[<-Nat.add_assoc,Mv];show Jx (HX c.1) f)) c.2 d (λi h o=>Ai (Vr p h l (G3 o)) (Ux u _ j l▸n)) g) λn=>q lo _ (G3 (AZ c.2 k)) c.1 (BH (AZ c.2 d)) e λi h o=>AQ (DP (Ux u _ j l▸n)) (Vr p l h o)
def S3(a:u.toList.Pairwise (·<·))(j):SW u j (SetTable.below u j):=Y8 a j _ 0 _ (Ay _ _) (De _) (Ag _) (λi h q=>absurd q (HW _)) λi h q=>absurd h (D8.mpr q)
def below_at(f:u.toList.Pairwise (·<·))(e:i<=u.size)(c:∀a∈u.toList.take i,a<j)(d:∀a∈u.toList.drop i,j<=a):SetTable.below u j=i:=by
 show BG (S3 f j) λp g k=>?_;rcases Nat.lt_trichotomy _ i with h|h|h;·have b:=AZ h e;show absurd (c _ (List.mem_take_iff_getElem.mpr ⟨_,Nat.lt_min.mpr ⟨h,b⟩,rfl⟩)) (D8.mpr (k _ b (Ag _)))
 ·show h
 ·have b:=AZ h p;show absurd (g i b h) (D8.mpr (d _ (List.mem_drop_iff_getElem.mpr ⟨0,lf b (by simp+arith),by simp⟩)))
def eF(f:u.toList.Pairwise (·<·))(q:u[SetTable.below u j]?≠some j):(SetTable.insertAt u (SetTable.below u j) j).toList.Pairwise (·<·):=by
 show BG (S3 f j) λp l n=>?_;rw[SetTable.toList_insertAt];have e:_=u.toList.take (SetTable.below u j)++_:=(List.take_append_drop _ _).symm;rw[e,List.pairwise_append]at f;rw[List.pairwise_append,Jv];have s:∀a∈u.toList.take (SetTable.below u j),a<j:=λa g=>by obtain⟨i,d,rfl⟩:=List.mem_take_iff_getElem.mp g;first|show l i (AZ d (Nat.min_le_right _ _)) (AZ d (Nat.min_le_left _ _))|show l i (AZ d (Nat.min_le_left _ _)) (AZ d (Nat.min_le_right _ _))|show l i (by lia) (by lia)
 show⟨f.1,⟨(λb c=>by
  obtain⟨i,d,rfl⟩:=List.mem_drop_iff_getElem.mp c;have k:SetTable.below u j+i<u.toList.length:=lf d (by simp+arith);show Nat.lt_of_le_of_ne (n _ k (A2 _ _)) λh=>?_;have m:=Ai (A2 _ _) k;have h3:=n _ m (Ag _);have r:=List.pairwise_iff_getElem.mp (e▸(List.pairwise_append.mpr f):u.toList.Pairwise (·<·));by_cases o:i=0;·clear c k;subst o;show q (Mine.AU Mi ?_);show J (Cz m) ?_;show Mine.AU h rfl
  ·have:=r _ _ m k (lf (Qz (by simp+arith) o) (by simp+arith));rw[<-h]at this;show absurd (AZ this h3) (HU _)),f.2.1⟩,λa g b c=>?_⟩;clear q p l n e;rcases BU.mp c with rfl|c;·show s a g
 ·show f.2.2 a g b c
def V4{t:SetTable}(h:t.dummies=#[])(j):SetTable.has t.dummies j=false:=J h rfl
def iZ{t:SetTable}(b:t.dummies=#[])(j):t.slot j≠.dummy:=iG (G:=λr=>r≠_) (λa=>λh=>by cases h) λa=>iG (G:=λr=>r≠_) (λh=>absurd h (by rw[V4 b];show HL)) λa=>λh=>by cases h 
def iY{t:SetTable}:t.slot j=.empty->t.place[SetTable.below t.place j]?≠some j:=iG (G:=λr=>r=SetTable.Slot.empty->_) (λa e=>by cases e) λh a q=>h (J q (EN _))
def g8(k:t.dummies=#[])(w)(h)(j)(H)(b):∀p:_,p.dummy=none->SetTable.probe.go t w h b p=some (.empty j H)->H=none/\t.place[SetTable.below t.place j]?≠some j:=by induction b with|zero=>showλp a e=>AS e|_ b f=>intro p a;have g:(t.advance p).dummy=none:=iG (G:=λq:SetTable.Probe=>q.dummy=none) (λc=>a) λc=>a;show(?_:(match t.slot p.j with|.empty=>_|.dummy=>_|.live i=>if w i==h then _ else SetTable.probe.go t w h _ _)=_->_);cases d:t.slot p.j with|empty=>showλe=>by clear f;cases e;show⟨a,iY d⟩|dummy=>show absurd d (iZ k _)|_ i=>show iG (G:=λr=>r=some (SetTable.Met.empty j H)->_) (λc e=>by cases e) λc=>f _ g
set_option tactic.hygienic true in
def dU{t:SetTable}(i:t.dummies=#[])(j:t.freeSlot h=some (c,b)):t.place[SetTable.below t.place c]?≠some c:=by cases a:t.probe _ h _ with|none=>show AS ((AE (SetTable.freeSlot.match_1 _ · _ _) a).symm.trans j)|some m=>have j:=(AE (SetTable.freeSlot.match_1 _ · _ _) a).symm.trans j;cases m with|empty k d=>show AV (s2 j) λe l=>AV (g8 i _ _ _ _ _ _ rfl a) λf g=>e▸f▸g|candidate=>show AS j
structure E2(L:Bool)(t:SetTable):Prop where
 led:t.led=L
 QA:t.dummies=#[]
 rise:t.plain=true->t.place.toList.Pairwise (· <·)
def E2.standIn(h:E2 M t)(n):E2 M (t.standIn n):=⟨h.led,rfl,AX⟩
set_option tactic.hygienic true in
def E2.layNew(q:E2 M t)(z)(h)(x):E2 M (layNew t z h x).2.1:=by
 unfold PySem.layNew;split
 ·rename_i c d b;show(?_:E2 M ((t.put _).1.orStandIn _));have a:E2 M (t.put c).1:=by show⟨q.led,(?_:(if _ then _ else _)=_),λe=>eF (q.rise e) (dU q.QA b)⟩;rw[V4 q.QA];show q.QA
  unfold SetTable.orStandIn;split;·show a
  ·show a.standIn _
 ·show q.standIn _
def hU(w:_->Option Nat)(n):(((List.range n).filterMap λj=>(w j).map (j,·)).map (·.1)).Pairwise (·<·):=by rw[List.pairwise_map,List.pairwise_filterMap];show List.pairwise_lt_range.imp λ{a b}f x d y e=>AJ (By.mp d) λu g c=>?_;clear d;obtain rfl:=c;show AJ (By.mp e) λv g c=>?_;clear e;obtain rfl:=c;show f
set_option tactic.hygienic true in
def E2.hR(q:E2 M t)(z)(n):E2 M (relayAll t z n).2.1:=by
 unfold relayAll;split
 ·rename_i g e a;dsimp only;split;·skip;show AJ (Fu.mp a) λf d a=>AV (s2 a) λb c=>?_;clear a;clear a;subst b c;show⟨q.led,rfl,λd=>J List.toList_toArray (hU _ _)⟩
  ·show q.standIn _
 ·show q.standIn _
noncomputable def FR(w:World):Bool:=w.params.followText "set-order"
noncomputable def JL:Value->Int|.int k _=>k|_=>0
def D'(f:Program)(w:World)(h:Heap)(a:Addr)(d:List Int):Prop:=∃o b c t,h.get? a=some o/\o.ExactSet/\o.data=.set b c t/\ElemsOf (PySem.intKind f w) b.toList/\b.size<scanBound/\t.fits b.size=true/\E2 (!FR w) t/\(b.toList.map λe=>JL e.2).Perm d
end
section
mutual
open A
variable{c:Program}{w:World}{A:Around}{T:Value->Shared->Prop}{s:Shared}{a:Addr}{d:List Int}
def Qj(h:(PySem.intKind c w).is k v=true):∃t,v=.int k t:=by have b:Value.isInt k v=_:=h;clear h;cases v with
 |int j t=>show⟨t,by have:=by simpa[Value.isInt]using b
                     (show J this ?_;rfl)⟩|_=>simp[Value.isInt]at b
def Qk(k)(t):(PySem.intKind c w).is k (.int k t)=true:=by show(?_:Value.isInt k (.int k t)=_);simp[Value.isInt]
def D'.keep(S:D' c w h a d)(k:∀o,h.get? a=some o->f.get? a=some o):D' c w f a d:=SG S λo e b t g r=>⟨o,e,b,t,k o g,r⟩
def Wr(n:s.heap.get? a=some o)(k:o.ExactSet)(f:o.data=.set z ep t)(i:ElemsOf (PySem.intKind c w) b.toList)(h:b.size<scanBound)(l:e.fits b.size=true)(p:E2 (!FR w) e)(m:(b.toList.map λj=>JL j.2).Perm d):(s.heap.update a (Obj.putSet b e)).get? a=some {o with data:=.set b (ep+1) e}/\D' c w (s.heap.update a (Obj.putSet b e)) a d:=by
 have g:=by have:=Iu (Obj.putSet b e) n (J (putSet_of b e f) rfl);rw[putSet_of b e f]at this;show this
 show⟨g,_,b,_,e,g,k,rfl,i,h,l,p,m⟩
def set_tail{g:_->_}(M:∀(b)(E)(l),l () E->wpAny (model c w) A (g b) l T E)(x:s.heap.get? a=some o)(r:o.ExactSet)(p:o.data=.set z ep t)(q:ElemsOf (PySem.intKind c w) e.toList)(k:e.size<scanBound)(L:t2.fits e.size=true)(C:E2 (!FR w) t2)(v:(e.toList.map λj=>JL j.2).Perm d)(h:∀i,Heap.SameBut a s.heap i->D' c w i a d->R (some true) {s with heap:=i}):wpAny (model c w) A (do
    storeSet a e t2 if(!O&&t2.tooFull)=true then do
       g (relayAll t2 e (SetTable.grown e.size)).2.2
       storeSet a (relayAll t2 e (SetTable.grown e.size)).1 (relayAll t2 e (SetTable.grown e.size)).2.1
       pure (some true)else pure (some true)) R T s:=by
 show AA (wpAny_storeSet_of x p (AV (Wr x r p q k L C v) λy H=>?_) (fits_of_scanBound k));have B:=FN s.heap a (Obj.putSet e t2);split
 ·have f:=relayAll_perm t2 e (SetTable.grown e.size);have u:=relayAll_fits t2 e (SetTable.grown e.size);have D:=C.hR e (SetTable.grown e.size);generalize relayAll t2 e _=G at f u D⊢;obtain⟨m,t3,N⟩:=G;have n:m.size<scanBound:=by show J (Mine.AU Ip (J f.length_eq rfl):m.size=_) ?_;show k
  show AA (M _ _ _ (AA (wpAny_storeSet_of y rfl (AV (Wr (s:={s with heap:=s.heap.update a _}) y r rfl (q.perm f) n u D ((f.map _).trans v)) λQ I=>AW (h _ (B.trans (FN _ a _)) I)) (fits_of_scanBound n))))
 ·show AW (h _ B H)
def iJ(AC:D' c w s.heap a d)(EQ:d.length+1<scanBound)(h:∀f b,Heap.SameBut a s.heap f->D' c w f a (if k∈d then d else k::d)->Q b {s with heap:=f}):wpAny (model c w) A (setAddHashed a (.int k B) ((PySem.intKind c w).hash k)) Q T s:=by
 obtain⟨o,i,V,t,l,y,q,r,H,z,S,u⟩:=AC;have K:(PySem.intKind c w).is k _=_:=Qk k B;have R:(Value.int k B).scannable=_:=rfl;have Fs:i.size+1<_:=J (by have:=u.length_eq;simpa using this:i.size=d.length) EQ
 show Cs (AA (Me l q z ?_));dsimp only;show J (byScan_of R H r) (AA (AA (Gp (AA (wpAny_setScan_of K l q z r ?_)))));cases P:List.findIdx? _ _ with|some j=>
  show AJ (List.findIdx?_eq_some_iff_getElem.mp P) λX Do FS=>?_;show AW (AW ?_);have e:s={s with heap:=s.heap}:=by clear h l;cases s;rfl
  show J e ?_;show h _ _ (Heap.SameBut.refl a _) ⟨o,i,V,t,l,y,q,r,H,z,S,by show J (AG (u.mem_iff.mp (Ar.mpr ⟨_,LA X,Ac (Qj Do) λFM e=>J e rfl⟩))) ?_;show u⟩|none=>
  have Db:k∉d:=λCh=>by show AJ (Ar.mp (u.mem_iff.mpr Ch)) λe M F=>?_;have:=List.findIdx?_eq_none_iff.mp P e M;show AV (r e M) λFa FS=>?_;rcases Fa with⟨Ev,Z,_⟩;show Ac (Qj Z) λFM E=>?_;rw[E]at F;have At:Ev=k:=F;rw[E,At,Qk]at this;show Ck this
  have W:∀(b){x}{n},n () x->wpAny (model c w) A (match b with|true=>rule "set.scan.the-table-gave-way"|false=>pure ()) n T x:=λb x n g=>by cases b<;>first|show AW g|show Gp g
  have m:=layNew_perm t i ((PySem.intKind c w).hash k) (.int k B);have C:=layNew_fits t i ((PySem.intKind c w).hash k) (.int k B);have D:=S.layNew i ((PySem.intKind c w).hash k) (.int k B);generalize layNew t i _ _=L at m C D⊢;obtain⟨G,t1,Gc,Fk⟩:=L;replace m:=Mj▸m;have N:=(r.push K R).perm m;have I:G.size<scanBound:=by(show Mine.AU Ip ?_;show J m.length_eq ?_;show J Bp ?_;show J Ip ?_);assumption
  have Y:(G.toList.map λe=>JL e.2).Perm _:=(m.map _).trans (J C8 ((List.perm_append_comm).trans (u.cons k)));have O:=λf v p=>h f true v (J (AF Db) p);show AA (W _ ?_);split
  ·show AA<|AW<|set_tail ?_ l y q N I C D Y ?_;·intro b x n g;cases b<;>first|show AW g|show Gp g
   ·intro f v p;dsimp only;show AW (O f v p)
  ·show AA (AW ?_);show set_tail ?_ l y q N I C D Y ?_;·intro b x n g;cases b<;>first|show AW g|show Gp g
   ·intro f v p;dsimp only;show AW (O f v p)
noncomputable def I5(d:List Int)(k:Int):List Int:=if k∈d then d else k::d
def Yf(d)(k):(I5 d k).length<=d.length+1:=by unfold I5;split<;>simp
def iP{m}(L:A.handled=none)(x:a≠N)(I:a≠l)(M:l≠N){R}(j):∀(k)(s)(d),IntsAre (m.toList.drop k) j->s.heap.IsListIter N l k->s.heap.IsList l m->D' c w s.heap a d->d.length+j.length+1<scanBound->(∀g tk,(∀b o,b≠a->b≠N->s.heap.get? b=some o->g.get? b=some o)->D' c w g a (j.foldl I5 d)->R (.ok (.ret .none)) {s with heap:=g,toks:=tk})->codeAny (model c w) A (.builtin "set.update.loop" ⟨[.ref a,.ref N],[]⟩) R s:=by induction j with|nil=>intro k s d f y p v i r;show JC PyProof.Rows.F.entry_set_update_loop (J (Jh Sp _) ?_);have T:=Nat.le_of_sub_eq_zero ((List.length_drop ..).symm.trans (IntsAre.length f));show AA (wpAny_pyNext_list_end L y p (O0 T) λg h=>AW (r g _ (λb o P i e=>h b o i e) (v.keep λo=>h a o x)))|cons n j F=>intro k s d f y p v i r;cases B:m.toList.drop k with|nil=>replace f:=B▸f;cases f|cons u K=>replace f:=B▸f;show AV (drop_cons B) λD E=>?_;cases f with|cons _ t O=>?_;show JC PyProof.Rows.F.entry_set_update_loop (J (Jh Sp _) (AA (wpAny_pyNext_list_item y p (by simpa using D) λg Q h=>AA (Cs (Cs (AA ((PySem.intKind _ w).pyHash (Qk n t) (iJ (s:={s with heap:=g,toks:=s.toks+1}) (v.keep λo=>h.extBut a o x) (Ai (HX (A2 _ _)) i) λq b z G=>AW ⟨plainId_quiet Sp _,F _ _ (I5 d n) (J E O) (Q.extBut z.extBut (CE x)) ((p.extBut h.extBut M).extBut z.extBut (CE I)) G (lf (Yf d n) (lf i (by simp+arith))) λh3 tk Y H=>r h3 tk (λb o C q e=>Y b o C q (z.extBut b o C (h.extBut b o q e))) H⟩))))))))
def IB(w:World):Obj:={cls:=.type "set",dict:=none,data:=.set #[] 0 (.fresh 0 0 !FR w)}
def code_set_new(v)(h:Q₁ (.ref s.heap.objs.size) {s with heap:=s.heap.push (IB w)}):codeAny (model c w) A (.call (.builtin "set.__new__") ⟨[.type "set",v],[]⟩) (wants Q₁ T) s:=by show codeAny_of_tree (AA (wpAny_of_eq (PySem.F.newCall_set_1 v) (AW ⟨plainId_quiet PySem.F.plain_set_new _,JC PySem.F.entry_set_new (J (Jh PySem.F.plain_set_new _) ?_)⟩)));delta Builtin.«set.__new__»Builtin.Frozenset.newClass;have f:=sub_set_self;obtain⟨e,g,b,i,os⟩:=s;wp_walk;show Je (AW (AA (wpAny_alloc (AW (AW h)))))
@[elab_as_elim]theorem XZ{Q T:Value->Shared->Prop}{s:Shared}{u:Result->Prop}(k:∀v,Q v s->u (.ok (.ret v)))(b:∀j,T j s->u (.error j))(r:Result)(h:wants Q T r s):u r:=by cases r with|error j=>show b j h|ok f=>cases f with|ret v=>show k v h|_=>show h.elim
def dV(a)(f:h.get? a=some (IB w)):D' c w h a []:=⟨_,_,0,_,f,⟨rfl,rfl,rfl⟩,rfl,λe b=>by simp at b,by decide,rfl,⟨rfl,rfl,λg=>.nil⟩,.refl _⟩
set_option maxRecDepth 100000 in
set_option maxHeartbeats 3200000 in
set_option maxRecDepth 100000 in
set_option maxHeartbeats 3200000 in
def iL{l:Addr}{m:Array Value}{g:List Int}{Q:Fin->Shared->Prop}(L:A.handled=none)(j:s.heap.get? a=some {cls:=.type "set",dict:=none,data:=.set #[] 0 (.fresh 0 0 !FR w)})(B:s.TypeIs (.ref a) "set")(i:s.heap.IsList l m)(t:a≠l)(v:IntsAre m.toList g)(u:g.length+1<scanBound)(h:∀f tk,D' c w f a (g.foldl I5 [])->(∀b o,b≠a->s.heap.get? b=some o->f.get? b=some o)->Q (.done (.ret .none)) {s with heap:=f,toks:=tk}):wpAny (model c w) A (Builtin.«set.__init__» ⟨[.ref a,.ref l],[]⟩) Q T s:=by
 obtain⟨z,y,k,G,p⟩:=id i;obtain⟨H,M,I,N⟩:=z;simp only at k p;subst k p;have E:=PySem.F.sub_list_set;have D:=PySem.F.sub_list_frozenset;have C:(Value.type "list"==Value.type "dict")=false:=by decide
 unfold Builtin.«set.__init__»noKeywords Builtin.Frozenset.updateFrom;generalize q:pyIter=PI;wp_walk;subst q;show Ou i (AA (wpAny_runValue ?_));show iP (a:=a) (l:=l) (m:=m) (by simp[L]) (Av (Ci j)) t (Av (Ci y)) g 0 _ [] (by simpa using v) ⟨_,B4 _ rfl,rfl,rfl⟩ (i.push _) (dV _ (A7 _ j)) (by simpa using u) λf tk x r=>?_;show(?_:wpAny _ _ _ _ _ _);show AW (?_:wpAny _ _ (ret Value.none) _ _ _);show AW (h f tk r λb o n e=>x b o n (Av (Ci e)) (A7 _ e))
def YZ(c:Program)(w:World)(s:Shared)(f:List Int)(r:Value)(g:Shared):Prop:=r=.none/\∃e h,g={s with heap:=e,toks:=h}/\D' c w e s.heap.objs.size (f.foldl I5 [])/\∀b o,s.heap.get? b=some o->e.get? b=some o 
set_option maxRecDepth 100000 in
set_option maxHeartbeats 3200000 in
def aT{l:Addr}{m:Array Value}{j:List Int}{Q:Value->Shared->Prop}(L:A.handled=none)(u:s.heap.IsList l m)(G:IntsAre m.toList j)(E:j.length+1<scanBound)(h:∀g tk,D' c w g s.heap.objs.size (j.foldl I5 [])->(∀b o,s.heap.get? b=some o->g.get? b=some o)->Q (.ref s.heap.objs.size) {s with heap:=g,toks:=tk}):wpAny (model c w) A (call (.type "set") [.ref l]) Q T s:=by
 have n:(s.heap.push (IB w)).get? s.heap.objs.size=some (IB w):=B4 _ rfl;obtain⟨N,v,q,X,t⟩:=id u;obtain⟨Z,At,AC,Ch⟩:=N;simp only at q t;subst q t;have M:=u.push (IB w);have V:=A7 (IB w) v;show Eb I2.mro λY Do S=>?_;have R:=I2.made;have W:=I2.sub;show wpAny_call (codeAny_of_tree (?_:wpAny _ _ (callAny (.type "set") _) _ _ _));show AW ⟨Code.quiet_builtin _ (by decide+kernel),JC PySem.F.entry_type_call (J (Around.under_plain (weight_type_call_type "set" [.ref l] []) rfl) ?_)⟩;have a:=I2.notType;have d:=I2.canCreate;have K:=PySem.F.typeCall_set_1 (.ref l);repeat(any_goals(first|assumption|wp_step))
 show codeAny_mono (code_set_new (.ref l) (T:=T) (Q₁:=λx y=>x=.ref s.heap.objs.size/\y={s with heap:=s.heap.push (IB w)}) ⟨rfl,rfl⟩) λr y f=>XZ (λx f=>?_) (λe f=>f) r f
 ·have z:=f.1;have B:=f.2;clear f;subst z B;have p:Shared.TypeIs {s with heap:=s.heap.push (IB w)} (.ref s.heap.objs.size) "set":=⟨_,n,rfl⟩;have P:=I2.init.lookup;have F:=I2.init.bind (.ref s.heap.objs.size);repeat(any_goals(first|assumption|wp_step))
  show codeAny_mono (codeAny_call_builtin (R:=wants (YZ c w s j) T) I2.init.plain PySem.F.entry_set_init (check_set_init_1 p ?_)) λO Db i=>XZ (λr i=>?_) (λe f=>f) O i;·show iL (by simp[L]) n p M (Dd (Ci v)) G E λg tk k H=>⟨rfl,g,tk,rfl,k,λb o e=>H b o (Av (Ci e)) (A7 _ e)⟩
  ·show Dc i.2 λg tk D k I=>?_;have C:=i.1;clear i;subst C D;repeat(any_goals(first|assumption|wp_step))
   show h _ _ k I
end
end
mutual
open A
def Ki:Slot "set_iterator" "__next__" "set_iterator.__next__":=.of (owner:="set_iterator") (n:="__next__") (by(rewrite[typeLookup_type];show J builtinLookup_eq_fast ?_);kernel_rfl) (by decide+kernel) (by decide+kernel) (by decide+kernel) (by first|show .inl (by decide+kernel)|show .inr (by decide+kernel)) (by kernel_rfl)
def US:entryFor table "set_iterator.__next__"=some Builtin.«set_iterator.__next__»:=entryFor_of_fast (by kernel_rfl)
def S1(a):argsOk "set_iterator.__next__" ⟨[a],[]⟩:=by kernel_rfl
def bq:entryFor table "set.__iter__"=some Builtin.«frozenset.__iter__»:=entryFor_alias (id':="frozenset.__iter__") (by kernel_rfl) (by first|rfl|decide+kernel) (by decide+kernel) (by kernel_rfl)
def Wx:Slot "set_iterator" "__iter__" "set_iterator.__iter__":=.of (owner:="set_iterator") (n:="__iter__") (by(rewrite[typeLookup_type];show J builtinLookup_eq_fast ?_);kernel_rfl) (by decide+kernel) (by decide+kernel) (by decide+kernel) (by first|show .inl (by decide+kernel)|show .inr (by decide+kernel)) (by kernel_rfl)
def br:entryFor table "set_iterator.__iter__"=some Builtin.«dict_keyiterator.__iter__»:=entryFor_alias (id':="dict_keyiterator.__iter__") (by kernel_rfl) (by first|rfl|decide+kernel|(skip)) (by decide+kernel) (by kernel_rfl)
def Ys(a):argsOk "set_iterator.__iter__" ⟨[a],[]⟩:=by kernel_rfl
def Ug{b:Type}{l:List b}:∀{i}(h),(l[i]::l.eraseIdx i).Perm l:=by induction l with|nil=>showλh=>absurd h (HW _)|cons x l a=>intro i h;cases i with|zero=>show .refl _|succ i=>show(List.Perm.swap x _ _).trans ((a (HV h)).cons x)
def gc(next)(a):∀(k)(left:List i)(b),left.length<=a->(pickOrder.go next a k left b).toList.Perm (b.toList++left):=by induction a with|zero=>showλk left b h=>O9 (Nat.le_zero.mp h)▸(Bv _).symm▸.refl _|succ a f=>
  intro k left b h;have e:pickOrder.go next (a+1) k left b=pickOrder.go.match_1 (λg=>_) _ _ _:=rfl;show J e ?_;by_cases d:left.length=0;·show O9 d▸(Bv _).symm▸.refl _
  ·have c:next k%_<_:=Nat.mod_lt _ (Nat.pos_of_ne_zero d);show J (Cz c) ((f _ _ _ (J (List.length_eraseIdx_of_lt c) (Nat.pred_le_pred h))).trans ?_);show J Mj (J (DN ..) ((Ug c).append_left _))
def WQ(next)(u:Array a):(pickOrder next u).toList.Perm u.toList:=by have:=gc next u.size 0 _ #[] (Ag _);assumption
end
section
mutual
open A
variable{e:Program}{d:World}{A:Around}{T:Value->Shared->Prop}{s:Shared}{a:Addr}{f:List Int}
def kG(b:n≠0)(h:∀i dr,i<n->Q i {s with drawn:=dr}):wpAny (model e d) A (choose g n) Q T s:=λj p c=>⟨b,h _ _ (Nat.mod_lt _ (Nat.pos_of_ne_zero b))⟩
def bX(n):∀(u:List m)(s)(Q),u.length=n->(∀l dr,l.Perm u->Q l {s with drawn:=dr})->wpAny (model e d) A (drawOrder n u) Q T s:=by induction n with|zero=>intro u s Q h c;cases List.length_eq_zero_iff.mp h;show AW (c [] _ (.refl _))|succ n k=>intro u s Q h c;cases u with|nil=>cases h|cons x u=>show AA (kG (Jy _) λi dr b=>J (Cz b) ?_);show AA (k _ _ _ (J (List.length_eraseIdx_of_lt b) (Nat.pred_eq_of_eq_succ h)) λl g j=>AW (c _ g ((j.cons _).trans (Ug b))))
abbrev I3(h:Heap)(I:Addr)(first:Value)(i:Nat)(S:Addr)(n ep:Nat):Prop:=h.get? I=some {cls:=.type "set_iterator",dict:=none,data:=.fields #[first,.int i 0,.ref S,.int n 0,.int ep 0],slots:=#[]}
def fT(h:b=false):¬b=true:=λq=>Ck (q.symm.trans h)
def D9(d:World)(S:Addr)(z:Array (Int×Value))(ep:Nat)(t:SetTable)(h:Heap)(B:Addr)(j:List Value)(first:Value)(i:Nat):Prop:=∀M:Prop,(∀c:Int,first=.int c 0->FR d=true->j=(pickOrder (d.params.setOrder S ep) z).toList.map (·.2)->M)->(∀c:Nat,first=.int c 0->FR d=false->(!t.plain&&decide (z.size>1))=false->t.led=true->t.place.toList.Pairwise (·<·)->t.place.size=z.size->(∀b∈t.place.toList.take i,b<c)->(∀b∈t.place.toList.drop i,c<=b)->j=z.toList.map (·.2)->M)->(∀g:List Nat,first=.ref B->h.get? B=some {cls:=.type "tuple",data:=.seq (g.map λ(p:Nat)=>Value.int p 0).toArray}->g.Perm (List.range z.size)->j=g.map (λp=>(z.toList.getD p (0,.none)).2)->M)->M
end
section
mutual
open A
variable{S B:Addr}{z:Array (Int×Value)}{ep:Nat}{t:SetTable}{h:Heap}{l:List Value}{i:Nat}
def D9.text(a:FR d=true)(b:l=(pickOrder (d.params.setOrder S ep) z).toList.map (·.2)):D9 d S z ep t h B l (.int c 0) i:=λM x y g=>x _ rfl a b
def D9.slots(a:FR d=false)(b:(!t.plain&&decide (z.size>1))=false)(c:t.led=true)(H:t.place.toList.Pairwise (·<·))(j:t.place.size=z.size)(w:∀b∈t.place.toList.take i,b<m)(g:∀b∈t.place.toList.drop i,m<=b)(k:l=z.toList.map (·.2)):D9 d S z ep t h B l (.int m 0) i:=λM x y n=>y _ rfl a b c H j w g k
def D9.drawn{g:List _}(a:h.get? B=some {cls:=.type "tuple",data:=.seq (g.map λ(p:Nat)=>Value.int p 0).toArray})(b:g.Perm (List.range z.size))(c:l=g.map λp=>(z.toList.getD p (0,.none)).2):D9 d S z ep t h B l (.ref B) i:=λM x y j=>j _ rfl a b c
def WS{b:Array (Int×Value)}(j:u=b.toList.map (·.2))(i:Nat):(b[i]?).map (·.2)=u[i]?:=j▸((D7 ..).trans (AE _ Mi)).symm
def bW{b:List _}(i:Nat):(b.map λ(p:Nat)=>Value.int p 0).toArray[i]?=(b[i]?).map λ(p:Nat)=>Value.int p 0:=(List.getElem?_toArray ..).trans (D7 ..)
def Zu{u:Array _}(o:u.toList.Pairwise (·<·))(k):(∀b∈u.toList.take (i+1),b<u[i]+1)/\(∀b∈u.toList.drop (i+1),u[i]+1<=b):=by
 have n:=List.pairwise_iff_getElem.mp o;show⟨λb g=>?_,λb g=>?_⟩;·show(List.mem_take_iff_getElem.mp g).elim λj h=>h.elim λm c=>c▸?_;show(Nat.lt_or_eq_of_le (G3 (AZ m (Nat.min_le_left _ _)))).elim (λh=>LG (n j i _ k h)) λh=>by cases h;show Cq _
 ·show(List.mem_drop_iff_getElem.mp g).elim λj h=>h.elim λm c=>c▸n i _ k _ (A2 _ _)
def Vg(g:l[i]?=some x)(b:l=z.toList.map (·.2))(c:t.place.size=z.size):i<t.place.size:=AZ ((Jt.mp g).1) (AY ((AE _ b).trans ((Al _).trans c.symm)))
def gH(j:s.heap.get? S=some o)(c:o.data=.set z ep t)(g:t.fits z.size=true)(b:FR d=true)(m:l=(pickOrder (d.params.setOrder S ep) z).toList.map (·.2))(k:Q (l[i]?.map λx=>(x,n)) s):wpAny (model e d) A (setNext S n i ep) Q T s:=AA (Me j c g (AA (AA (Je (AW (J (AG b) (J (AF (fT (M4 _))) (AA (AA (Me j c g (AA (AA (Je (AW (J (AG b) (AA (Je (AW (AW (J ((Option.map_map (λx:_=>(x,_)) _ _).symm.trans (AE _ (WS m i))) k))))))))))))))))))))
def gG(G:s.heap.get? S=some o)(w:o.data=.set z ep t)(y:t.fits z.size=true)(C:i<=z.size)(v:FR d=false)(H:(!t.plain&&decide (z.size>1))=false)(E:t.led=true)(L:t.place.toList.Pairwise (·<·))(g:t.place.size=z.size)(r:∀b∈t.place.toList.take i,b<m)(u:∀b∈t.place.toList.drop i,m<=b)(I:l=z.toList.map (·.2))(k:∀n,(∀h:_,n=t.place[i]+1)->Q (l[i]?.map λx=>(x,n)) s):wpAny (model e d) A (setNext S m i ep) Q T s:=by
 show AA (Me G w y (AA (AA (Je (AW (J (AF (fT v)) (J (AF (fT H)) (AA ((?_:wpAny _ _ (if _ then _ else _) _ _ _))))))))));show J (AF (fT (E▸rfl))) (AW (AW (J (below_at L (AQ C (AY g.symm)) r u) ?_)));have j:=WS I i;show(Nat.lt_or_ge i z.size).elim (λh=>?_) λh=>?_;·have D:=AZ h (AY g.symm);have c:=Io h;show J c ?_;show J (Io D) ?_;show Eq.subst (motive:=λq=>Q (q.map λx=>(x,t.place[i]+1)) s) (j.symm.trans (AE _ c)) (k _ λh=>rfl)
 ·have c:=O0 h;show J c (Eq.subst (motive:=λq=>Q (q.map λx=>(x,0)) s) (j.symm.trans (AE _ c))<|k 0 λp=>absurd (AZ p (AY g)) (LH h))
def gF(j:s.heap.get? S=some o)(c:o.data=.set z ep t)(g:t.fits z.size=true)(k:p<z.size)(m:Q (z.toList.getD p (0,.none)).2 s):wpAny (model e d) A (setNextDrawn S p ep) Q T s:=by show AA (Me j c g ?_);dsimp only;show J (AF (fT (M4 ep))) ?_;have b:=Io k;show J b (AW (J (p:=λq=>Q q s) (AE _ (rfl.trans (AE (λq:_=>q.getD (0,.none)) (Mi.trans b)))).symm m))
def Wz(L:s.heap.get? S=some o)(G:o.data=.set z ep t)(H:t.fits z.size=true)(Ch:i<=z.size)(k:I3 s.heap I first i S z.size ep)(r:D9 d S z ep t s.heap B l first i)(f:∀x j AC,l[i]?=some x->I3 j I AC (i+1) S z.size ep->D9 d S z ep t s.heap B l AC (i+1)->Heap.ExtBut I s.heap j->Q (.done (.ret x)) {s with heap:=j})(At:l[i]?=none->∀j,Heap.ExtBut I s.heap j->wpAny (model e d) A (newExc (.type "StopIteration") []>>=raiseNew) Q T {s with heap:=j}):wpAny (model e d) A (Builtin.«set_iterator.__next__» ⟨[.ref I],[]⟩) Q T s:=by
 show(?_:wpAny _ _ (fieldsOf (.ref I)>>=_) _ _ _);show AA (AA (wpAny_load k (AW (AA (wpAny_setEntries_of L G H (J (AF (fT (M4 _))) ?_))))));have O:∀(n:Nat),(∀x,_->_)->wpAny (model _ d) A (match l[i]?.map λx=>(x,n)with|some (x,next)=>do setField (.ref I) 0 (rawInt next);_;ret x|none=>do setField (.ref I) 2 .none;_) Q T s:=λn r=>by cases m:l[i]? with|some x=>show AA (Hz k (by decide:0<5) λv u q=>AA (Hz u (by decide:1<5) λw E s2=>AW (f x w _ m E (r x m) λb o c N=>s2.extBut b o c (q.extBut b o c N))))|none=>show AA (Hz k (by decide:2<5) λv u q=>At m v q.extBut)
 show r _ (λW y c g=>?_) (λW y c C F Y M v w g=>?_) λV y h C g=>?_;·clear r;clear k;cases y;show AA (gH L G H c g (O _ λx m=>.text c g))
 ·clear r;clear k;cases y;show AA (gG L G H Ch c C F Y M v w g λn P=>O n λx m=>AV (Zu Y (Vg m g M)) λa b=>P (Vg m g M)▸.slots c C F Y M a b g)
 ·clear O r;cases y;show AA (Gq h rfl ?_);dsimp only;show J (bW i) ?_;have u:_[i]?=_:=g▸D7;cases D:V[i]? with|none=>show J D ?_;show AA (Hz k (by decide:0<5) λv K q=>AA (Hz K (by decide:2<5) λw E s2=>At (u.trans (AE _ D)) w λb o c N=>s2.extBut b o c (q.extBut b o c N)))|some p=>have R:p<z.size:=Ju.mp (C.mem_iff.mp (Ms D));show J D (AA (gF L G H R (AA (Hz k (by decide:1<5) λj E q=>AW (f _ j _ (u.trans (AE _ D)) E (.drawn h C g) q.extBut)))))
def iN(u:i<z.size)(p:I3 s.heap I first i S z.size ep)(w:s.heap.get? S=some o)(q:o.data=.set z ep t)(r:t.fits z.size=true)(v:D9 d S z ep t s.heap B l first i)(m:l[i]?=some x)(C:∀g k,I3 g I k (i+1) S z.size ep->D9 d S z ep t s.heap B l k (i+1)->Heap.ExtBut I s.heap g->Q (.done (.ret x)) {s with heap:=g}):wpAny (model e d) A (Builtin.«set_iterator.__next__» ⟨[.ref I],[]⟩) Q T s:=Wz w q r (BH u) p v (λy g n j a b c=>AP (m.symm.trans j)▸C g n a b c) λj=>Ce (m.symm.trans j)
def iw(L:A.handled=none)(g:∀c j,(∀b o,s.heap.get? b=some o->c.get? b=some o)->(∃o,c.get? j=some o/\o.cls=.type "StopIteration")->T (.ref j) {s with heap:=c}):wpAny (model e d) A (newExc (.type "StopIteration") []>>=raiseNew:Sem Fin) Q T s:=by show AA (AA (Kv (AA (wpAny_of_eq (a:=Value.none) rfl (Kv (AA (wpAny_handled (J L (AA (AW (wpAny_throw (g _ _ (λb o j=>A7 _ (A7 _ j)) ⟨_,B4 _ rfl,rfl⟩))))))) (by size_fits)))) (by size_fits)))
def iK(L:A.handled=none)(y:l[z.size]?=none)(m:I3 s.heap I first z.size S z.size ep)(w:s.heap.get? S=some o)(p:o.data=.set z ep t)(r:t.fits z.size=true)(u:D9 d S z ep t s.heap B l first z.size)(g:∀c j,Heap.ExtBut I s.heap c->(∃o,c.get? j=some o/\o.cls=.type "StopIteration")->T (.ref j) {s with heap:=c}):wpAny (model e d) A (Builtin.«set_iterator.__next__» ⟨[.ref I],[]⟩) Q T s:=Wz w p r (Ag _) m u (λx c D j=>AS (y.symm.trans j)) λG E n=>iw L λc j k q=>g c j (λb o v C=>k b o (n b o v C)) q
def D9.keep(q:D9 d S z ep t h B l first i)(g:∀o,h.get? B=some o->c.get? B=some o):D9 d S z ep t c B l first i:=λM x y j=>q M x y λp b a=>j p b (g _ a)
end
end
mutual
open A
def kC(L:A.handled=none)(H:I≠S)(M:I≠B)(r:o.data=.set z ep t)(u:t.fits z.size=true)(x:C.length=z.size):Walks e d A I [I,S,B] [I] z.size (λi v=>C[i]?=some v) λi h=>h.get? S=some o/\∃first,I3 h I first i S z.size ep/\D9 d S z ep t h B C first i where
 sub:=λb l=>by simp at l;simp[l]
 frame:=λi h p st q=>by obtain⟨k,first,c,h3⟩:=st;show⟨q S (by simp) _ k,_,q I (by simp) _ c,h3.keep λo j=>q B (by simp) o j⟩
 item:=λi s Q T w st m=>by obtain⟨k,first,c,h3⟩:=st;have y:=Cz (AZ w (AY x.symm));have g:s.TypeIs (.ref I) _:=⟨_,c,rfl⟩;show AA (wpAny_attempt (Jf g Ki (FH Ki g US ?_ (S1 _))));show iN w c k r u h3 y λp G D E n=>⟨_,rfl,AW (m _ p _ y ⟨n S _ (CE H) k,G,D,E.keep λo j=>n B o (CE M) j⟩ λb o l j=>n b o (by simpa using l) j)⟩
 done:=λs Q T st m=>by obtain⟨k,first,c,h3⟩:=st;have g:s.TypeIs (.ref I) _:=⟨_,c,rfl⟩;show AA (wpAny_attempt (Jf g Ki (FH Ki g US (iK (by assumption) (H8 (AY x)) c k r u h3 λp j n O=>?_) (S1 _))));show AJ O λa Y N=>AA (wpAny_isInstance ⟨a,Y,N⟩ isSubtype_stop (AW (m p _ λb o l j=>n b o (by simpa using l) j)))
 self:=λi s Q T st m=>by obtain⟨k,first,c,h3⟩:=st;have g:s.TypeIs (.ref I) _:=⟨_,c,rfl⟩;show wpAny_pyIter_slot g Wx (FH Wx g br (AW ⟨_,rfl,_,_,g,Ki.lookup,m⟩) (Ys _))
def iO(AC:D' e d s.heap S f)(Ch:∀o z ep t B first k c dr,(B=S\/s.heap.get? B=none)->o.cls=.type "set"->s.heap.get? S=some o->o.data=.set z ep t->t.fits z.size=true->z.size<scanBound->k.length=z.size->ElemsOf (PySem.intKind e d) z.toList->k.Perm (z.toList.map (·.2))->(z.toList.map λj=>JL j.2).Perm f->(∀b o,s.heap.get? b=some o->c.get? b=some o)->B<c.objs.size->D9 d S z ep t c B k first 0->Q (.ref c.objs.size) {s with heap:=c.push {cls:=.type "set_iterator",dict:=none,data:=.fields #[first,.int 0 0,.ref S,.int z.size 0,.int ep 0],slots:=#[]},drawn:=dr}):wpAny (model e d) A (pyIter (.ref S)) Q T s:=by
 obtain⟨o,z,ep,t,h,M,r,X,q,g,F,At⟩:=AC;have I:s.TypeIs (.ref S) _:=⟨_,h,M.1⟩;have Y:=Ci h;have a:=by simp only[SetTable.fits,Ct,A5]at g;show g.1
 show wpAny_pyIter_slot I PySem.F.slot_set_iter (FH PySem.F.slot_set_iter I bq ((?_:wpAny _ _ (Builtin.Frozenset.sizeOf S>>=_) _ _ _)) (PySem.F.args_set_iter_1 _));show AA (AA (wpAny_setEntries_of h r g (AW (AA (AA (Me h r g (AA (AA (Je (AW (AW ((?_)))))))))))));have E:∀(B)(first)(k)(c)(dr),_->_->_->_->_->_->wpAny (model e d) A.in1 (do let j<-setEpoch S;let x<-newFields _ [first,_,_,rawInt _,rawInt j];ret x) (λP K=>∃v,P=.done (.ret v)/\∃G id,K.TypeIs v G/\typeLookup (.type G) _=pure (some id)/\Q v K) T {s with heap:=c,drawn:=dr}:=λB first k c dr R n H h3 V W=>by show AA (wpAny_setEpoch_of (h3 _ _ h) r g (AA (Kv (AW ⟨_,rfl,_,_,⟨_,B4 _ rfl,rfl⟩,Ki.lookup,Ch o z ep t B _ k c dr R M.1 h r g q n X H At h3 V W⟩))))
 by_cases m:(!FR d&&(!t.plain&&decide (z.size>1)))=true
 ·show J (AG m) (AA (bX _ _ _ _ (by simp) λl dr u=>?_));have O:=u.length_eq;simp only[List.length_range]at O;show AA (wpAny_newTuple ?_ (by(rewrite[Al];show J O ?_);show fits_of_scanBound q));have Z:=u.length_eq;show E _ _ _ _ dr (.inr (BV _)) (by simp[Z]) ?_ (λb o j=>A7 _ j) (by rw[Gw];show Cq _) (.drawn (B4 _ rfl) u rfl);show(u.map _).trans ?_;have:(List.range z.size).map (λp=>(z.toList.getD p (0,Value.none)).2)=z.toList.map (·.2):=by show List.ext_getElem (by simp) λi n H=>?_;simp at n;simp[n]
  show J this ?_;rfl
 ·show J (AF m) (AA (AW ?_));by_cases L:FR d=true
  ·show E S _ _ _ _ (.inl rfl) ?_ ?_ (λw w j=>j) Y (.text L rfl);·have:=(WQ (d.params.setOrder S ep) z).length_eq;simpa using this
   ·show(WQ _ _).map _
  ·have y:=by simpa using L
   have C:(!t.plain&&decide (z.size>1))=false:=by replace m:=(y)▸m;simpa using m
   show E S _ _ _ _ (.inl rfl) ?_ (.refl _) (λw w j=>j) Y (.slots y C (J F.led (J y rfl)) ?_ a (λb q=>by simp at q) (λb w=>De _) rfl);·simp
   ·by_cases D:t.plain=true;·show F.rise D
    ·skip;have N:t.place.toList.length<=1:=by show(AQ (AY a) (by simp only[Bool.not_eq_true]at D;rw[D]at C;simpa using C))
     generalize t.place.toList=l at N;cases l with|nil=>show .nil|cons x l=>show O9 (Nat.le_zero.mp (PD N))▸List.pairwise_singleton _ _
def d5(b:s.TypeIs (.ref S) "set")(h:Q false s):wpAny (model e d) A (Builtin.List.listLengthHint (.ref S)) Q T s:=by show AA (Mf b PySem.F.slot_set_len.lookup ?_);generalize c:"set.__len__"=i;wp_delta;show J (show splitId i=some ("set","__len__")from by subst c;decide+kernel) ?_;subst c;show AA (wpAny_isInstance (b:=true) b (by kernel_rfl) (wpAny_ite_split (λg=>absurd g (by decide)) λj=>wpAny_ite_split (λj=>AA (wpAny_typeOf b (AW h))) (absurd (by decide+kernel))))
def Mk(s:Shared)(I:Addr)(f:List Int)(q:Result)(j:Shared):Prop:=∃h3 k i g c,∃h:List Int,q=.ok (.ret (.ref I))/\j={s with heap:=h3,toks:=k,drawn:=i}/\(∀b o,s.heap.get? b=some o->h3.get? b=some o)/\h3.get? I=some {cls:=.type "list",dict:=none,data:=.seq g c,slots:=#[]}/\IntsAre g.toList h/\h.Perm f
def av(L:A.handled=none)(FS:D' e d s.heap S f)(ZB:∀m tk dr D(C:List Int),(∀b o,s.heap.get? b=some o->m.get? b=some o)->IntsAre D C->C.Perm f->Q D {s with heap:=m,toks:=tk,drawn:=dr}):wpAny (model e d) A (collect (.ref S)) Q T s:=by
 show AA (wpAny_runValue (JC entry_proto_collect' (J (Jh PySem.F.plain_proto_collect _) ((AA (Kv (AW ⟨plainId_quiet PySem.F.plain_list_iadd _,JC entry_list_iadd' (J (Jh PySem.F.plain_list_iadd _) ?_)⟩)))))));have AC:S<s.heap.objs.size:=by(show SG FS λn n n n z n=>?_;(skip));show Ci z
 generalize G:s.heap.objs.size=g at AC;have X:(s.heap.push {cls:=.type "list",data:=.seq ([]).toArray}).get? g=some {cls:=.type "list",data:=.seq #[]}:=by show Mine.AU G ?_;show B4 _ rfl
 have Y:S≠g:=Av AC;have Fa:D' e d (s.heap.push {cls:=.type "list",data:=.seq ([]).toArray}) S f:=by show SG FS λo w B t z r=>?_;(skip);show⟨o,w,B,t,A7 _ z,r⟩
 have ap:wpAny (model e d) A.in1 (Builtin.List.listExtendWith (.ref g) (.ref S) (.ref g)) (λW j=>match W with|.done EQ=>(Mk s g f) (.ok EQ) j|.again I=>I.quiet=true/\codeAny (model e d) A I (Mk s g f) j) (λh j=>False) {s with heap:=s.heap.push {cls:=.type "list",data:=.seq ([]).toArray}}:=by
  have Rs:∀{j:Shared},D' e d j.heap S f->j.TypeIs (.ref S) "set":=λq=>by(show SH q λo n n n z Uf n=>?_;(try clear q));show⟨o,z,Uf.1⟩
  show AA (wpAny_typeOf (Rs Fa) ?_);have M:Builtin.List.listSameRef (.ref g) (.ref S)=false:=by simp[Builtin.List.listSameRef,CE Y]
  show J (AF (by show J M ?_;decide)) ?_;show AA (iO Fa λo w B t H first At m dr Sc Tk z Tl WF a Go UV H1 W1 u TE X0=>?_);have Z:=Ci (u _ _ X);have Re:=Br AC Z;have On:m.objs.size≠S:=Dd Re;have Op:m.objs.size≠H:=Dd TE;have FM:=Dd Z;have NE:∀(p:Heap)(c tk:Nat),(p.get? S=some o/\∃first,I3 p m.objs.size first 0 S w.size B/\D9 d S w B t p H At first 0)->(∀b o,s.heap.get? b=some o->p.get? b=some o)->p.get? g=some {cls:=.type "list",dict:=none,data:=.seq #[] c,slots:=#[]}->g∉[m.objs.size,S,H]->codeAny (model e d) A (.builtin "list.extend.loop" ⟨[.ref g,.ref m.objs.size,.ref g],[]⟩) (Mk s g f) {s with heap:=p,toks:=tk,drawn:=dr}:=by
   intro p c tk st Wp N O;have ac:=fits_of_scanBound a;show codeAny_extend_loopS (kC (by simpa using L) On Op Tl WF Go).toS ac g O (.ref g) w.size 0 _ #[] c rfl (De _) st N (ItemsOf.nil _) λj V I F Ps Fk=>?_;have TW:V.toList=At:=by show List.ext_getElem (J Ip (J Fk.1 (J Go rfl))) λi M p=>?_;have this:At[i]?=some (V[i]'(by simpa using M)):=Fk.2 i _ (by simp[M]);rw[Cz p]at this;have:=AP this;show J this ?_;simp
   obtain⟨UF,M2,Do,a2,ar⟩:=j;have Ix:M2=s.gens:=F.gens;have E:Do=dr:=F.drawn;have JP:ar=s.os:=F.os;subst Ix E JP;have a1:∀(l),ElemsOf (PySem.intKind e d) l->∀D:_,D.Perm (l.map (·.2))->IntsAre D (D.map JL):=λl XV D K=>by
    have Fs:∀v∈D,∃k t,v=Value.int k t:=λv P=>by show AJ (Ar.mp (K.mem_iff.mp P)) λh T0 Ch=>?_;clear P;obtain rfl:=Ch;show AV (XV h T0) λbe n=>?_;rcases be with⟨k,u,_⟩;show Ac (Qj u) λt E=>⟨k,t,E⟩
    clear K;induction D with|nil=>show .nil|cons v D al=>show Eb (Fs v AR) λk t Ch=>?_;obtain rfl:=Ch;show .cons k t (al λv P=>Fs v (Ah _ P))
   show⟨UF,a2,Do,V,I,_,rfl,rfl,λb o h=>F.heap b o ?_ (Wp b o h),Ps,J TW (a1 _ UV _ H1),?_⟩
   ·have Gc:b<g:=by show Mine.AU G ?_;show Ci h
    simp only[BU,Cu,or_false,not_or];show⟨Av Gc,Av (Br Gc Z)⟩
   ·have:=H1.map JL;rw[Bj]at this;show this.trans W1
  have Ok:(m.push {cls:=.type "set_iterator",dict:=none,data:=.fields #[first,.int 0 0,.ref S,.int w.size 0,.int B 0],slots:=#[]}).get? _=_:=B4 _ rfl;have am:∀b o,s.heap.get? b=some o->m.get? b=some o:=λb o h=>u b o (A7 _ h);have O:g∉[m.objs.size,S,H]:=by
   simp only[BU,Cu,or_false,not_or];show⟨CE FM,CE Y,λh=>?_⟩;rcases Sc with q|q;·show Y (q▸h.symm)
   ·rw[<-h,X]at q;show Ce q
  show AA (Cs (d5 ⟨o,A7 _ (u _ _ z),Tk⟩ ?_));show wpAny_ite_split (λn=>(AA (Gp (AA ((?_)))))) (absurd (by decide+kernel));have Ev:(m.push {cls:=.type "set_iterator",dict:=none,data:=.fields #[first,.int 0 0,.ref S,.int w.size 0,.int B 0],slots:=#[]}).get? g=_:=A7 _ (u _ _ X);show AA (wpAny_updateSeq Ev rfl ?_);have N:=Iu (Obj.mapSeq (·.push Value.none)) Ev rfl;show wpAny_updateSeq N rfl ?_;have No:=Iu (Obj.mapSeq (·.pop)) N rfl;have R:∀b o,b≠g->_->(((m.push {cls:=.type "set_iterator",dict:=none,data:=.fields #[first,.int 0 0,.ref S,.int w.size 0,.int B 0],slots:=#[]}).update g (Obj.mapSeq (·.push Value.none))).update g (Obj.mapSeq (·.pop))).get? b=some o:=λb o a h=>(Heap.get?_update_other _ _ (CE a)).trans ((Heap.get?_update_other _ _ (CE a)).trans h);show AW ⟨plainId_quiet PySem.F.plain_extend_loop _,NE _ _ _ ⟨R _ _ Y (A7 _ (u _ _ z)),first,R _ _ FM Ok,X0.keep λo h=>R _ _ (λE=>O (by simp[E])) (A7 _ h)⟩ (λb o h=>R b o (Mine.AU G (Av (Ci h))) (A7 _ (am b o h))) No O⟩
 show BW ap (λW j x=>?_) λh j x=>x.elim;have IN:∀{q:Result}{j:Shared},Mk s g f q j->wpAny (model e d) A (load g>>=λo=>match o.data with|.seq bd _=>pure bd.toList|_=>unsupported "internal:collect") Q T j:=λ{q j}x=>by obtain⟨h3,tk,dr,Db,c,C,_,rfl,u,G,WP,K⟩:=x;show AA (wpAny_load G (AW (ZB h3 tk dr _ C u WP K)))
 cases W with|done EQ=>obtain⟨h3,tk,dr,Db,c,C,h,r⟩:=id x;cases h;show IN x|again bv=>show⟨x.1,codeAny_mono x.2 λq ca y=>?_⟩;obtain⟨h3,tk,dr,Db,c,C,rfl,r⟩:=id y;show IN y
end
end
mutual
open A
def eI:∀a:List _,(a.map V.int).all Qe=true:=by intro a;induction a with|nil=>show rfl|cons c a b=>show b
def W5(a)(h:a.length<64):DC (a.map .int)=some ((sortI a).map .int):=by unfold DC;show J (AG (by simpa using h)) (J (AG (eI a)) ?_);rewrite[OU];rfl
def ig{c a:List _}(d:a.Perm c)(h:DC (c.map .int)=some ys):DC (a.map .int)=some ys:=by have b:=(Ri h).2;simp at b;rw[W5 c b]at h;show J (W5 a (J d.length_eq b)) (Mine.AU h ?_);congr 2;show W2 ((sortI_perm a).trans d) (Rg a)
def eH:∀{u}{p},ED u=some p->u=p.map .int:=by intro u;induction u with|nil=>intro p e;show AP e▸rfl|cons x u a=>intro p e;show oB e λi c e=>oM e (G:=λp=>_=_) λd b=>J (a b) (J (int_is c) rfl)
end
section
mutual
open A
variable{f a g:St}{d Y m:Mu}{s k n:Shared}{C:Cx}{A:Around}{h b c:Heap}{y:PySem.Env}{e i:Env}
def cZ(F:Facts C)(L:A.handled=none){w:Ba}(AC:Au C A y j w)(H:isStar j=false)(Ev:y.kindOf "sorted"=some .globalImplicit)(At:nsIn C.K mainGlobals "sorted"=some none)(Db:bootBuiltins "sorted"=some (.builtin "sorted"))(FM:y.kindOf "set"=some .globalImplicit)(Ch:nsIn C.K mainGlobals "set"=some none)(Do:bootBuiltins "set"=some (.type "set")):Au C A y (.Call (.Name "sorted" p) [.Call (.Name "set" l) [j] [] M2] [] JP) λe f=>((w e f).bind λ(v,f)=>(some ([],f)).map λ(D,f)=>(v::D,f)).bind λ(D,f)=>Cb f .JW D:=by showλe f V a q d s I R=>oB q λr t T=>Jd (JR F I R Ev (by decide) At (by decide) Db (LW rfl rfl (wpAny_items_cons (Jd (JR F I R FM (by decide) Ch (by decide) Do (LW rfl (IZ (by simp only[H7,List.all_nil,H];rfl)).1 (wpAny_items_cons (AC.b t I R λX Op v Fa On x u N FS=>AW ?_) (JY H _ _))))) rfl)));(have t:=AP x;clear x;subst t);show AJ (By.mp T) λW o j=>?_;cases j;show oB o λNo i o=>oB (oT o).2 λH1 c g=>?_;have B:=(oT o).1;show AJ (By.mp g) λOk h Fs=>?_;obtain rfl:=Fs;cases eH c;show FS.l i (G:=λv=>wpAny _ A (call _ ([]++[v])) _ E0 Fa) λGc IN Z M EQ Go=>?_;have n:=EQ.VQ;have k:scanBound=4096:=rfl;simp at B;show aT (by simpa using L) Z n (lf B (lf (AY k.symm) (by simp+arith))) λb NE m G=>AW (BW (W6 (λQ E S=>av (by assumption) m λh3 Fk O D Ix K Y P=>S h3 Fk O D _ K (AM.ofInts Y) (ig P h)) (u.keeps G)) (λv s2 z=>Ab.trans (N.trans (Step.keeps u.lt G)) z) λM M q=>q)
end
end
mutual
open A
structure Gt where
 nm:Nat->Str
 an:Nat->Str
 mn:Nat->Str
 fn:Nat->Str
 cn:Nat->Str
 gl:Nat->Str
 Hn:Nat->Bool
 Qc:Nat->Bool
abbrev Kn:=Str->Option NameKind
end
noncomputable section
mutual
open A
noncomputable def x0:Expr:=.Name Str.empty default
def kids(j:Expr):List Expr:=Expr.casesOn (motive_1:=λd=>List Expr) j (λd e d=>e) (λd d d=>[]) (λa d b d=>[a,b]) (λd a d=>[a]) (λd d d d=>[]) (λc a b d=>[c,a,b]) (λg h d=>(g.zip h).flatMap λp=>[p.1.getD x0,p.2]) (λd d d=>[]) (λa d d d=>[a]) (λd d d d=>[]) (λd d d d d=>[]) (λd d d d=>[]) (λd d=>[]) (λd d=>[]) (λd d=>[]) (λa d e d=>a::e) (λf e d d=>f::e) (λa d d d=>[a]) (λe d=>e) (λd d d=>[]) (λa d d=>[a]) (λa i d=>[a,i]) (λd d=>[]) (λd d=>[]) (λe d=>e) (λe d d=>e) λd u d d=>[u.getD x0]
def kd(j:Expr)(i:Nat):Expr:=(kids j).getD i x0
noncomputable def EO(j:Expr):List Comprehension×Scope:=Expr.casesOn (motive_1:=λa=>List Comprehension×Scope) j (λa a a=>([],default)) (λa a a=>([],default)) (λa a a a=>([],default)) (λa a a=>([],default)) (λa a a a=>([],default)) (λa a a a=>([],default)) (λa a a=>([],default)) (λa a a=>([],default)) (λa gs b a=>(gs,b)) (λa a a a=>([],default)) (λa a a a a=>([],default)) (λa a a a=>([],default)) (λa a=>([],default)) (λa a=>([],default)) (λa a=>([],default)) (λa a a a=>([],default)) (λa a a a=>([],default)) (λa a a a=>([],default)) (λa a=>([],default)) (λa a a=>([],default)) (λa a a=>([],default)) (λa a a=>([],default)) (λa a=>([],default)) (λa a=>([],default)) (λa a=>([],default)) (λa a a=>([],default)) λa a a a=>([],default)
noncomputable def pN(j:Expr):Nat:=Expr.casesOn (motive_1:=λa=>Nat) j (λa a a=>0) (λa a a=>0) (λa a a a=>0) (λa a a=>0) (λa a a a=>0) (λa a a a=>0) (λa a a=>0) (λa a a=>0) (λa a a a=>0) (λa a a a=>0) (λa a a a a=>0) (λa a a a=>0) (λa a=>0) (λa a=>0) (λa a=>0) (λa a a a=>0) (λa a a a=>0) (λa a a a=>0) (λa a=>0) (λa n a=>n) (λa a a=>0) (λa a a=>0) (λa a=>0) (λa a=>0) (λa a=>0) (λa n a=>n) λa a a a=>0
noncomputable def FZ(k:Nat)(j:Expr):Bool:=Nat.beq j.ctorIdx k
noncomputable def keysOf:List Expr->List (Option Expr)|k::a::r=>some k::keysOf r|_=>[]
noncomputable def R7:List Expr->List Expr|a::v::r=>v::R7 r|_=>[]
noncomputable def WH:Option NameKind->Bool|some .local=>true|some .cell=>true|some .free=>true|_=>false
noncomputable def EB(a:Kn)(x:Str):Bool:=decide (a x=some .globalImplicit)&&! x==("__debug__":Str) 
def kB(o:Expr):Bool:=FZ 23 o||FZ 20 o||FZ 6 o
noncomputable def PZ(b:Bi):Option (Str×Value):=match b with|.len=>some ("len",.builtin "len")|.abs=>some ("abs",.builtin "abs")|.min=>some ("min",.builtin "min")|.max=>some ("max",.builtin "max")|.sum=>some ("sum",.builtin "sum")|.sorted=>some ("sorted",.builtin "sorted")|.int=>some ("int",.type "int")|.tuple=>some ("tuple",.type "tuple")|.list=>some ("list",.type "list")|.dict=>some ("dict",.type "dict")|_=>none
noncomputable def Qg(b:Bi):Bool:=match b with|.JW=>true|_=>false
noncomputable def TB:Bm->Bool|.append=>true|.extend=>true|.sort=>true|.get=>true|_=>false
noncomputable def IX{b a:Type}(o:Option b)(p:b->a)(H:a):a:=Option.casesOn (motive:=λc=>a) o H p
noncomputable def Rl(ow:Str->Bool)(a:Kn)(x:Str):Bool:=decide (a x=some .local)||decide (a x=some .cell)&&ow x 
noncomputable def tupP(p:PT):Bool:=PT.casesOn (motive_1:=λa=>Bool) p (λa=>false) λa=>true
def SS(m:MI)(p:PT):Bool:=MI.casesOn (motive_2:=λa=>Bool) m (λa=>true) (λa=>true) λa a=>tupP p
noncomputable def tc{a:Type}(b:Bool)(x:a×Bool):a×Bool:=(x.1,b&&x.2)
noncomputable def t1{a b:Type}(w:a->b)(x:a×Bool):b×Bool:=(w x.1,x.2)
noncomputable def t2{a b c:Type}(w:a->b->c)(x:a×Bool)(A:b×Bool):c×Bool:=(w x.1 A.1,x.2&&A.2)
def JJ(gs:List Comprehension):Comprehension:=gs.headD ⟨x0,x0,[],0⟩
def XJ(b:Bi)(a:Kn)(j:Expr)(n:Nat)(r s:List Expr×Bool):Expr×Bool:=IX (PZ b) (λy=>tc (EB a y.1) (t1 (λl=>.Call (.Name y.1 (kd j 0).pos) l [] j.pos) r)) (IX (J2 b) (λT=>tc (EB a "isinstance"&&EB a (Str.ofString T)&&Nat.beq n 1) (t1 (λl=>.Call (.Name "isinstance" (kd j 0).pos) (l++[.Name (Str.ofString T) (kd j 2).pos]) [] j.pos) r)) (tc (Qg b&&EB a "sorted"&&EB a "set"&&Nat.beq n 1) (t1 (λl=>.Call (.Name "sorted" (kd j 0).pos) [.Call (.Name "set" (kd (kd j 1) 0).pos) l [] (kd j 1).pos] [] j.pos) s)))
end
section
variable(G:Gt)
mutual
def Hx:PT->(Str->Bool)->Kn->Expr->Expr×Bool|.nm i=>λb a e=>(.Name (G.nm i) e.pos,Rl b a (G.nm i))|.tup c=>λb a e=>t1 (λl=>.Tuple l (pN e) e.pos) (Of c b a (kids e))
def Of:List PT->(Str->Bool)->Kn->List Expr->List Expr×Bool|[]=>λd d d=>([],true)|p::e=>λc b a=>t2 List.cons (Hx p c b (a.headD x0)) (Of e c b a.tail)
end
mutual
open A
noncomputable def aW(b:Kn)(a:Scope)(r:List Nat):Bool:=decide (a.kind=.function)&&decide (a.names.map (·.1)).Nodup&&a.names.all λx=>(!decide (x.2=.free)||decide (b x.1=some .cell))&&((!decide (x.2=.local)&&!decide (x.2=.cell))||r.any λi=>x.1==G.nm i)
noncomputable def JN(a:Kn)(b:Scope):Kn:=λx=>(b.names.lookup x).map λk=>if k==.free&&a x==some .cell then .cell else k
noncomputable def MH:List MG->List Nat|[]=>[]|.mk p _ _::r=>pvars p++MH r
noncomputable def Lc:List MG->Bool|[]=>true|.mk p _ _::r=>(MH r).all (λi=>!(pvars p).contains i)&&Lc r
end
mutual
def tr:ME->Kn->Expr->Expr×Bool|.none=>λj e=>(.Constant .none (pN e) e.pos,true)|.bool b=>λj e=>(.Constant (.bool b) (pN e) e.pos,true)|.int i=>λj e=>(.Constant (.int i) (pN e) e.pos,true)|.str s=>λj e=>(.Constant (.str s) (pN e) e.pos,true)|.var i=>λd e=>(.Name (G.nm i) e.pos,WH (d (G.nm i))&&!(G.nm i==("__classdict__":Str))&&!(G.nm i==("__debug__":Str)))|.glob i=>λd e=>(.Name (G.gl i) e.pos,EB d (G.gl i))|.tup g=>λd e=>tc (decide (g.length<=1000)) (t1 (λl=>.Tuple l (pN e) e.pos) (CT g d (kids e)))|.lst g=>λd e=>tc (decide (g.length<=1000)) (t1 (λl=>.List l e.pos) (CT g d (kids e)))|.Dm g=>λd e=>tc (decide (g.length<=1000)) (t1 (λl=>.List l e.pos) (CT g d (kids e)))|.FA g=>λd e=>tc (decide (1<g.length)&&decide (g.length<=30)) (t1 (λl=>.Dict (keysOf l) (R7 l) e.pos) (CT g d (kids e)))|.MA=>λj e=>(.Dict [] [] e.pos,true)|.bin k a b=>λd e=>t2 (λx y=>.BinOp x (Pj k) y e.pos) (tr a d (kd e 0)) (tr b d (kd e 1))|.neg a=>λd e=>t1 (λx=>.UnaryOp .USub x e.pos) (tr a d (kd e 0))|.not a=>λd e=>t1 (λx=>.UnaryOp .Not x e.pos) (tr a d (kd e 0))|.and g=>λd e=>tc (!g.isEmpty) (t1 (λl=>.BoolOp .And l e.pos) (CT g d (kids e)))|.or g=>λd e=>tc (!g.isEmpty) (t1 (λl=>.BoolOp .Or l e.pos) (CT g d (kids e)))|.cmp k a b=>λd e=>t2 (λx y=>.Compare x [EP k] [y] e.pos) (tr a d (kd e 0)) (tr b d (kd e 1))|.isNone a=>λd e=>t1 (λx=>.Compare x [.Is] [.Constant .none (pN (kd e 1)) (kd e 1).pos] e.pos) (tr a d (kd e 0))|.KZ a=>λd e=>t1 (λx=>.Compare x [.IsNot] [.Constant .none (pN (kd e 1)) (kd e 1).pos] e.pos) (tr a d (kd e 0))|.chain a t b u c=>λd e=>t2 (λx(y:Expr×Expr)=>.Compare x [EP t,EP u] [y.1,y.2] e.pos) (tr a d (kd e 0)) (t2 Prod.mk (tr b d (kd e 1)) (tr c d (kd e 2)))|.ite c a b=>λd e=>t2 (λx(y:Expr×Expr)=>.IfExp x y.1 y.2 e.pos) (tr c d (kd e 0)) (t2 Prod.mk (tr a d (kd e 1)) (tr b d (kd e 2)))|.call f g=>λd e=>tc (EB d (G.fn f)&&G.Hn f) (t1 (λl=>.Call (.Name (G.fn f) (kd e 0).pos) l [] e.pos) (CT g d (kids e).tail))|.Af o m g=>λd e=>tc (kB (tr o d (kd (kd e 0) 0)).1&&decide (g.length<30)&&(kd e 0).pos.endLine==e.pos.line) (t2 (λx l=>.Call (.Attribute x (G.mn m) (kd e 0).pos) l [] e.pos) (tr o d (kd (kd e 0) 0)) (CT g d (kids e).tail))|.new c=>λd e=>(.Call (.Name (G.cn c) (kd e 0).pos) [] [] e.pos,EB d (G.cn c)&&G.Qc c)|.bi b g=>λd e=>XJ b d e g.length (CT g d (kids e).tail) (CT g d (kids (kd e 1)).tail)|.bm o m g=>λd e=>tc (TB m&&(kB (tr o d (kd (kd e 0) 0)).1&&decide (g.length<30)&&(kd e 0).pos.endLine==e.pos.line)) (t2 (λx l=>.Call (.Attribute x (Str.ofString (Pd m)) (kd e 0).pos) l [] e.pos) (tr o d (kd (kd e 0) 0)) (CT g d (kids e).tail))|.attr o a=>λd e=>tc (kB (tr o d (kd e 0)).1) (t1 (λx=>.Attribute x (G.an a) e.pos) (tr o d (kd e 0)))|.idx o i=>λd e=>t2 (λx y=>.Subscript x y e.pos) (tr o d (kd e 0)) (tr i d (kd e 1))|.slice o r=>λd e=>tc (FZ 23 (tr o d (kd e 0)).1) (t2 (λx y=>.Subscript x (.Slice none (some y) none (kd e 1).pos) e.pos) (tr o d (kd e 0)) (tr r d (kd (kd e 1) 0)))|.comp q h p=>λd e=>tc (aW G d (EO e).2 p&&!h.isEmpty&&Lc h&&(MH h).all (p.contains ·)) (t2 (λx gs=>.ListComp x gs (EO e).2 e.pos) (tr q (JN d (EO e).2) (kd e 0)) (Kp h d (JN d (EO e).2) (Hc (EO e).2) (EO e).1))|.KN n a=>λd e=>tc (decide (n.length<=1000)) (t1 (λx=>.JoinedStr [.Constant (.str n) (pN (kd e 0)) (kd e 0).pos,.FormattedValue x (-1) none (kd e 1).pos] e.pos) (tr a d (kd (kd e 1) 0)))
def CT:List ME->Kn->List Expr->List Expr×Bool|[]=>λd d=>([],true)|m::c=>λb a=>t2 List.cons (tr m b (a.headD x0)) (CT c b a.tail)
def Kq:MI->Kn->Expr->Expr×Bool|.val m=>λc e=>tr m c e|.DL m=>λc e=>tc (EB c "range") (t1 (λx=>.Call (.Name "range" (kd e 0).pos) [x] [] e.pos) (tr m c (kd e 1)))|.zip a b=>λc e=>tc (EB c "zip") (t2 (λx y=>.Call (.Name "zip" (kd e 0).pos) [x,y] [] e.pos) (tr a c (kd e 1)) (tr b c (kd e 2)))
def Kp:List MG->Kn->Kn->(Str->Bool)->List Comprehension->List Comprehension×Bool|[]=>λd d d d=>([],true)|.mk p c e::r=>λf a b gs=>(⟨(Hx G p b a (JJ gs).target).1,(Kq c f (JJ gs).iter).1,(CT e a (JJ gs).ifs).1,0⟩::(Kp r a a b gs.tail).1,SS c p&&((Hx G p b a (JJ gs).target).2&&((Kq c f (JJ gs).iter).2&&((CT e a (JJ gs).ifs).2&&(Kp r a a b gs.tail).2))))
end
mutual
def EH(c:Nat->Bool):AT->Kn->Expr->Expr×Bool|.pt p=>Hx G p λf=>true|.attr o a=>λb e=>tc (c a) (t1 (λx=>.Attribute x (G.an a) e.pos) (tr G o b (kd e 0)))|.sub o i=>λb e=>t2 (λx y=>.Subscript x y e.pos) (tr G o b (kd e 0)) (tr G i b (kd e 1))|.tup d=>λb e=>t1 (λl=>.Tuple l (pN e) e.pos) (Oe c d b (kids e))
def Oe(a:Nat->Bool):List AT->Kn->List Expr->List Expr×Bool|[]=>λe e=>([],true)|t::d=>λc b=>t2 List.cons (EH a t c (b.headD x0)) (Oe a d c b.tail)
end
end
end
mutual
open A
def aL(h:(a&&b)=true):a=true:=(Bool.and_eq_true_iff.mp h).1
def aR(h:(a&&b)=true):b=true:=(Bool.and_eq_true_iff.mp h).2
def nT(h:(!a)=true):a=false:=Jm _|>.mp h
def eT(h:l.isEmpty=true):l=[]:=LB.mp h
def Kc{o}{p:d->c}{G:c->Prop}(k:∀a,o=some a->G (p a))(b:o=none->G H):G (IX o p H):=by cases o with|none=>show b rfl|some a=>show k a rfl
noncomputable def LR:List Str:=["len","abs","min","max","sum","sorted","int","tuple","list","dict","isinstance","bool","set","range","zip"]
structure Ed(C:Cx)(fa:Nat->Addr)(n:Nat)(P:Pg)(G:Gt)(GY:Nat->Bool):Prop where
 F:Facts C
 GC:GG C
 K:Fi C fa n P.call
 MF:PC C fa G.mn P.Af
 MK:PB C fa P.init
 nm:∀i,C.nm i=G.nm i
 an:∀i,C.an i=G.an i
 QH:∀f,G.Hn f=true->nsIn C.K mainGlobals (G.fn f)=some (some (.ref (fa f)))/\keepIn C.K (.ref (fa f))=true
 P0:∀c,G.Qc c=true->nsIn C.K mainGlobals (G.cn c)=some (some (.ref (C.cls c)))
 QK:∀i V,P.glob i=some V->∃v,nsIn C.K mainGlobals (G.gl i)=some (some v)/\∀σ μ s,Inv C σ μ s->VR σ μ s.heap V v
 bt:∀x∈LR,nsIn C.K mainGlobals x=some none
 PW:∀a,GY a=true->∀c,findIn C.K (.ref (C.cls c)) (C.an a)=some none
structure Fr(kn:Kn)(env:PySem.Env):Prop where
 hk:∀x,env.kindOf x=kn x
 hf:env.scope.kind=.function
end
section
mutual
open A
variable{C:Cx}{u:Nat->Addr}{n:Nat}{P:Pg}{G:Gt}{g:Nat->Bool}{d:Around}{c:Kn}{y:PySem.Env}{ow:Str->Bool}
def gK(W:Fr c y)(h:EB c x=true):y.kindOf x=some .globalImplicit:=(W.hk x).trans (A9 (aL h))
def gD(h:EB c x=true):(x=="__debug__")=false:=nT (aR h)
def kB.of(h:kB o=true):N7 o:=λa y t=>(GD.mp h).elim (λh=>(GD.mp h).elim (λh=>Expr.Name.elim o (LD h) λb b=>rfl) λh=>Expr.Attribute.elim o (LD h) λb b b=>rfl) λh=>Expr.Dict.elim o (LD h) λb b b=>rfl
def Y3(h:N7 x):eval (.Attribute x a b) y=(do
   let I<-eval x y
   standAt b.atName let r<-holding [I] (getAttr I a true)letTemporaryGo x I r
   pure r):=by(rewrite[arm_eval_Attribute];show J (h _ _ _) ?_;rfl)
def gL(h:WH k=true):k=some .local\/k=some .cell\/k=some .free:=by cases k with|none=>show AX h|some k=>cases k with|«local»=>show .inl rfl|cell=>show .inr (.inl rfl)|free=>show .inr (.inr rfl)|_=>show AX h
def bad(j:Expr):Bool:=FZ 7 j||(FZ 22 j||(FZ 26 j||(FZ 9 j||FZ 10 j)))
def XK{K:_->Prop}(p:∀A,PZ b=some A->K (tc (EB c A.1) (t1 (λl=>.Call (.Name A.1 (kd j 0).pos) l [] j.pos) r)))(a:∀B,J2 b=some B->K (tc (EB c "isinstance"&&EB c (Str.ofString B)&&Nat.beq n 1) (t1 (λl=>.Call (.Name "isinstance" (kd j 0).pos) (l++[.Name (Str.ofString B) (kd j 2).pos]) [] j.pos) r)))(e:K (tc (Qg b&&EB c "sorted"&&EB c "set"&&Nat.beq n 1) (t1 (λl=>.Call (.Name "sorted" (kd j 0).pos) [.Call (.Name "set" (kd (kd j 1) 0).pos) l [] (kd j 1).pos] [] j.pos) s))):K (XJ b c j n r s):=Kc p λf=>Kc a λf=>e
noncomputable def ki(j:Nat):Nat:=[19,19,19,19,23,23,25,24,24,6,6,2,3,3,0,0,15,15,15,15,5,16,16,16,16,16,20,21,21,8,18].getD j 0
def XM(m:ME)(j):(tr G m c j).1.ctorIdx=ki m.ix:=by cases m with|bi b e=>show XK (K:=λz=>z.1.ctorIdx=16) (λa a=>rfl) (λa a=>rfl) rfl|_=>rfl
def VY{p:_->_->_}(h:(List.range 31).all (λj=>p j (ki j))=true)(b:∀j,p (j+31) 0=true)(j):p j (ki j)=true:=(Nat.lt_or_ge j 31).elim (λa=>DD.mp h j (Ju.mpr a)) λa=>Nat.sub_add_cancel a▸b _
def Kr(m:ME)(j):bad (tr G m c j).1=false:=by show(?_:(Nat.beq _ 7||(Nat.beq _ 22||(Nat.beq _ 26||(Nat.beq _ 9||Nat.beq _ 10))))=_);show XM m j▸nT (VY (p:=λb i=>!(Nat.beq i 7||(Nat.beq i 22||(Nat.beq i 26||(Nat.beq i 9||Nat.beq i 10))))) (by decide+kernel) (λa=>rfl) _)
def XO{i k:Nat}(h:Nat.beq m.ix i=false)(b:(List.range 31).all (λa=>Nat.beq a i||!Nat.beq (ki a) k)=true)(e:∀a,(Nat.beq (a+31) i||!Nat.beq 0 k)=true)(j):FZ k (tr G m c j).1=false:=(AE (Nat.beq · k) (XM m j)).trans (nT ((GD.mp (VY (p:=λa x=>_) b e _)).resolve_left λz=>Ck (z.symm.trans h)))
def jD{j}(h:bad j=false)(a:FZ 8 j=false):swapsWith j t l y=pure false:=by cases j with|ListComp=>show Ck a|SetComp=>show Ck h|DictComp=>show Ck h|_=>rfl
def jd(h:FZ 23 x=true)(B r):letTemporaryGo x B r=pure ():=Expr.Name.elim x (LD h) λa a=>rfl
def V8(h:bad A=false):behindInMarks o A=false:=by cases A with|Set=>show Ck h|_=>rfl
def QJ(h:bad j=false)(x):foldedSetIterable j y x=pure x:=by cases j with|Set=>show Ck h|_=>rfl
def iW(h:bad j=false):∀lo a st p,j≠.Slice lo a st p:=by rintro lo a st p rfl;show Ck h
def iv(h:bad j=false):isStar j=false:=by cases j with|Starred=>show Ck h|_=>rfl
def Ks(m:ME)(j):isStar (tr G m c j).1=false:=iv (Kr m j)
def Rm(W:Fr c y)(h:Rl ow c x=true):Ic ow y x:=(GD.mp h).imp (λh=>(W.hk x).trans (A9 h)) λh=>⟨(W.hk x).trans (A9 (aL h)),aR h⟩
def PP(C:Cx)(G:Gt)(d:Around)(p:PT):Prop:=∀ow c y,Fr c y->∀e,(Hx G p ow c e).2=true->Fv C d ow y p (Hx G p ow c e).1/\∀i∈pvars p,Ic ow y (C.nm i)
structure YW(C:Cx)(A:Around)(ow:Str->Bool)(env:PySem.Env)(ps:List PT)(es:List Expr):Prop where
 ok:LK C A ow env ps es
 st:∀i∈MN ps,Ic ow env (C.nm i)
 l:ps.length=es.length
 s:es.all (λe=>!isStar e)=true
def YT(C:Cx)(G:Gt)(d:Around)(a:List PT):Prop:=∀ow c y,Fr c y->∀b,(Of G a ow c b).2=true->YW C d ow y a (Of G a ow c b).1
def Rx(p:PT)(j):isStar (Hx G p ow c j).1=false:=by cases p<;>rfl
def PO(h:isStar j=false)(a:z.all (λj=>!isStar j)=true):(j::z).all (λj=>!isStar j)=true:=Bool.and_eq_true_iff.mpr ⟨AE _ h,a⟩
def sP(S:Ed C u n P G g)(L:d.handled=none)(p:PT):PP C G d p:=PT.rec (motive_2:=YT C G d) (λi ow c y W e h=>⟨WY (S.nm i).symm (Rm W h),λj l=>As.mp l▸(S.nm i).symm▸Rm W h⟩) (λo f ow c y W e h=>have q:=f ow c _ W _ h;⟨hE L q.ok q.l q.s,q.st⟩) (λow c y W k h=>⟨hG,λi b=>absurd b Cu,rfl,rfl⟩) (λp o f m ow c y W k h=>have a:=f ow c _ W _ (aL h);have q:=m ow c _ W _ (aR h);⟨hF a.1 q.ok (Rx p _),λi b=>(Cp.mp b).elim (a.2 i) (q.st i),AE _ q.l,PO (Rx p _) q.s⟩) p
def B8(C:Cx)(d:Around)(y:PySem.Env)(j:Expr)(w:Ba):Prop:=Au C d y j w/\Dh C d y j (CX w)
def B8.of{w:Ba}(h:Au C d y j w)(b:∀a,isTrue j y a=do let v<-a;standAt j.pos;holding [v] (truthy v)):B8 C d y j w:=⟨h,jV h b⟩
def PE(C:Cx)(P:Pg)(G:Gt)(d:Around)(m:ME):Prop:=∀c y,Fr c y->∀e,(tr G m c e).2=true->B8 C d y (tr G m c e).1 (AD P m)
def Ey(C:Cx)(P:Pg)(G:Gt)(d:Around)(a:List ME):Prop:=∀m∈a,PE C P G d m
def PI(C:Cx)(P:Pg)(G:Gt)(d:Around)(m:MI):Prop:=∀c y,Fr c y->∀p ow a t e,SS m p=true->(Kq G m c e).2=true->Gy C d y (Hx G p ow a t).1 (Kq G m c e).1 (C2 P m)/\bad (Kq G m c e).1=false
def PG(C:Cx)(P:Pg)(G:Gt)(d:Around):MG->Prop|.mk _ b a=>PI C P G d b/\Ey C P G d a
structure O3(C:Cx)(A:Around)(env:PySem.Env)(es:List Expr)(n:Nat)(f:Env->St->Option (List V×St)):Prop where
 ok:Fj C A env es f
 l:n=es.length
 s:es.all (λe=>!isStar e)=true
def cp:∀{e}{f i:St}{a},C1 P b e f=some (a,i)->a.length=b.length:=by induction b with|nil=>showλ{_ f i a}h=>(AE (λp=>p.1.length) (AP (h))).symm|cons m b j=>showλh=>oB h λr k h=>(By.mp h).elim λq h=>(AE (λp=>p.1.length) h.2).symm.trans (AE (·+1) (j h.1))
def Ey.hd(a:Ey C P G d (m::b)):PE C P G d m:=a m AR
def Ey.tl(b:Ey C P G d (m::e)):Ey C P G d e:=λq a=>b q (Ah _ a)
def JU(W:Fr c y)(a):∀z:_,Ey C P G d a->(CT G a c z).2=true->O3 C d y (CT G a c z).1 a.length (C1 P a):=by induction a with|nil=>showλz f h=>⟨ct,rfl,rfl⟩|cons m a e=>showλz b h=>have q:=e _ b.tl (aR h);⟨cq (b.hd c _ W _ (aL h)).1 q.ok (Ks m _),AE _ q.l,PO (Ks m _) q.s⟩
def O3.len(q:O3 C d y z b.length (C1 P b))(e)(f:St)(a)(i:St)(h:C1 P b e f=some (a,i)):a.length=z.length:=(cp h).trans q.l
def hj(W:Fr c y)(a):∀z:_,Ey C P G d a->(CT G a c z).2=true->(!a.isEmpty)=true->H4 C d y .And (CT G a c z).1 (GW P a)/\HJ C d y .And (CT G a c z).1 (GW P a):=by induction a with|nil=>showλz j h e=>AX e|cons m a f=>intro z b h _;have q:=b.hd c _ W _ (aL h);cases a with|nil=>show⟨TG q.1,Yj q.2⟩|cons i a=>show have r:=f _ b.tl (aR h) rfl;⟨bool_and q.1 r.1,Yi q.2 r.2⟩
def h6(W:Fr c y)(a):∀z:_,Ey C P G d a->(CT G a c z).2=true->(!a.isEmpty)=true->H4 C d y .Or (CT G a c z).1 (Hr P a)/\HJ C d y .Or (CT G a c z).1 (Hr P a):=by induction a with|nil=>showλz j h e=>AX e|cons m a f=>intro z b h _;have q:=b.hd c _ W _ (aL h);cases a with|nil=>show⟨TG q.1,Ym q.2⟩|cons i a=>show have r:=f _ b.tl (aR h) rfl;⟨Zq q.1 r.1,Yl q.2 r.2⟩
def Wl(W:Fr c y)(a):∀z:_,Ey C P G d a->(CT G a c z).2=true->H' C d y (CT G a c z).1 (I6 P a):=by induction a with|nil=>showλz f h=>e6|cons m a e=>showλz b h=>e4 (b.hd c _ W _ (aL h)).2 (e _ b.tl (aR h))
structure Si(C:Cx)(A:Around)(env:PySem.Env)(ks:List (Option Expr))(vs:List Expr)(k:Nat)(f:Env->St->Option (List (SK×V)×St)):Prop where
 ok:LJ C A env ks vs f
 s:ks.all (·.isSome)=true
 l:ks.length=vs.length
 n:2*ks.length<=k
 m:k<=2*ks.length+1
 t:∀ρ σ ps FJ,f ρ σ=some (ps,FJ)->ps.length=ks.length
def h5(W:Fr c y)(k):∀(e)(z),e.length<=k->Ey C P G d e->(CT G e c z).2=true->Si C d y (keysOf (CT G e c z).1) (R7 (CT G e c z).1) e.length (Hh P e):=by have nil:∀{k},_->Si C d y [] [] k _:=λh=>⟨hD,rfl,rfl,De _,h,λm o l s h=>(AE (λp=>p.1.length) (AP h)).symm⟩;induction k with|zero=>showλe z h f i=>O9 (Nat.le_zero.mp h)▸nil (De _)|succ k j=>intro e z h f i;cases e with|nil=>show nil (De _)|cons a e=>cases e with|nil=>show nil (Ag _)|cons b e=>have r:=j e _ (Nat.le_of_succ_le (PD h)) f.tl.tl (aR (aR i));show⟨hC (f.hd c _ W _ (aL i)).1 (f.tl.hd c _ W _ (aL (aR i))).1 r.ok,r.s,AE _ r.l,Jx r.n 2,Jx r.m 2,λm o l s h=>oB h λx t h=>oB h λk h3 h=>oB h λw v h=>(By.mp h).elim λq h=>(AE (λp=>p.1.length) h.2).symm.trans (AE (·+1) (r.t _ _ _ _ h.1))⟩
def Ey.one(W:Fr c y){b}(f:Ey C P G d b)(h:(CT G b c z).2=true)(e:Nat.beq b.length 1=true){K:_->_->Prop}(k:∀a x,Au C d y x (AD P a)->isStar x=false->K [a] [x]):K b (CT G b c z).1:=by cases b with|nil=>show AX e|cons a r=>cases r with|nil=>show k a _ (f.hd c _ W _ (aL h)).1 (Ks a _)|cons=>show AX e
end
end
section
mutual
open A
variable{C:Cx}{k:Nat->Addr}{n:Nat}{P:Pg}{G:Gt}{g:Nat->Bool}{d:Around}{c:Kn}{y:PySem.Env}{ow:Str->Bool}
def PI.val(h:PE C P G d m)(F:Facts C):PI C P G d (.val m):=λc y W p ow a t e b q=>⟨eS F (h c _ W e q).1,Kr m e⟩
def PI.DL(S:Ed C k n P G g)(a:PE C P G d m):PI C P G d (.DL m):=λc y W p ow b t e f h=>⟨eR S.F (a c _ W _ (aR h)).1 (Ks m _) (gK W (aL h)) (S.bt _ (by decide)) Boot.range,rfl⟩
def PI.zip(S:Ed C k n P G g)(f:PE C P G d a)(i:PE C P G d b):PI C P G d (.zip a b):=λc y W p ow l t e j h=>by cases p with|nm=>show AX j|tup m=>show⟨eU S.F ⟨_,_,_,rfl⟩ (f c _ W _ (aL (aR h))).1 (i c _ W _ (aR (aR h))).1 (Ks a _) (Ks b _) (gK W (aL h)) (S.bt _ (by decide)) Boot.zip,rfl⟩
def T1(h:Lc (.mk p N b::r)=true):(∀i∈MH r,i∉pvars p)/\Lc r=true:=⟨λi a=>by simpa using DD.mp (aL h) i a,aR h⟩
def sG(S:Ed C k n P G g)(L:d.handled=none)(W:Fr c y){I}{j:ME}{o}{D}{B}(x:PE C P G d j){l}(w:(tr G j c l).2=true)(a):∀(gs)(H),(∀m∈a,PG C P G d m)->(Kp G a c c ow gs).2=true->Lc a=true->o.drop (H+1)=(Kp G a c c ow gs).1->Iw C d ow y I (innerOf (tr G j c l).1 o D B H (.ref I) y) (MH a) λe f=>FY P (λe f=>AD P j e f) a e e f:=by induction a with|nil=>showλgs H E h E b=>eB (x c _ W l w).1 (H8 (List.drop_eq_nil_iff.mp b))|cons u O A=>obtain⟨p,N,M⟩:=u;showλgs H r h v b=>AV (T1 v) λs t=>have q:=r _ AR;have i:=q.1 c _ W p ow c _ _ (aL h) (aL (aR (aR h)));eC L ((List.getElem?_drop (j:=0)).symm.trans (AE (·[0]?) b)) i.1 (QJ i.2) (sP S L p ow c _ W _ (aL (aR h))).1 (Wl W _ _ q.2 (aL (aR (aR (aR h))))) (A _ _ (λq z=>r q (Ah _ z)) (aR (aR (aR (aR h)))) t ((List.drop_drop).symm.trans (AE _ b))) s
def ej(W:Fr c y)(a)(b:a.kind=.function)(M):Fr (JN c a) (EA a y M):=⟨λx=>by show(?_:(relabel a _).names.lookup x=_);show J Vf (J W.hf ?_);rewrite[W.hk];unfold JN;simp,b⟩
def Xk(C:Cx)(P:Pg)(d:Around)(y:PySem.Env)(b:ME)(j:List MG)(r:List Nat)(h:Expr)(gs:List Comprehension)(m:Scope)(l:Pos):Prop:=∀M:List Comprehension->Ba->Prop,(∀f t i e p o K fl a,O1 C d y h t i e f m l r p o K fl a->M (⟨t,i,e,0⟩::f) (NG r p K fl a))->M gs (AD P (.comp b j r))
def Wj(S:Ed C k n P G g)(L:d.handled=none)(W:Fr c y)(I:PE C P G d b)(A:∀m∈l,PG C P G d m)(h:(tr G (.comp b l r) c j).2=true):Xk C P d y b l r (tr G b (JN c (EO j).2) (kd j 0)).1 (Kp G l c (JN c (EO j).2) (Hc (EO j).2) (EO j).1).1 (EO j).2 j.pos:=λM T=>by have o:=aL h;have f:=aL (aR h);have e:=aR (aR h);cases l with|nil=>show AX (aR (aL (aL o)))|cons H R=>obtain⟨p,K,F⟩:=H;have u:=aL (aL (aL o));have v:=A9 (aL (aL u));have q:=A _ AR;have s:=ej W (EO j).2 v;have w:=DD.mp (aR u);have i:=q.1 c _ W p (Hc (EO j).2) (JN c (EO j).2) (JJ (EO j).1).target _ (aL e) (aL (aR (aR e)));show AV (T1 (aR (aL o))) λB E=>T _ _ _ _ p _ _ _ _ ⟨⟨v,A9 (aR (aL u)),λx f N=>(W.hk _).trans ((GD.mp (aL (w x f))).elim (λz=>absurd N (of_decide_eq_false (nT z))) A9),λx f O=>(GD.mp (aR (w x f))).elim (λz=>absurd O λY=>Y.elim (of_decide_eq_false (nT (aL z))) (of_decide_eq_false (nT (aR z)))) λz=>AJ (Ds.mp z) λi t j=>⟨i,t,(eq_of_beq j).trans (S.nm i).symm⟩⟩,i.1,QJ i.2,λa=>(sP S L p _ _ _ (s a) _ (aL (aR e))).1,λa=>Wl (s a) _ _ q.2 (aL (aR (aR (aR e)))),λa D=>sG S L (s a) I f _ _ 0 (λq Q=>A q (Ah _ Q)) (aR (aR (aR (aR e)))) E rfl,B,λi t=>List.contains_iff_mem.mp (DD.mp (aR o) i t)⟩
structure Xi(b:Bi)(y:Str×Value):Prop where
 ok:Et b y.2
 pl:RM y.2=true
 bo:bootBuiltins y.1=some y.2
 ne:y.1≠"__name__"
 mem:y.1∈LR
def ZE(h:PZ b=some A):Xi b A:=by cases b<;>first|show AS h;done|((have a:=AP h;clear h;subst a);show⟨by first|show ZJ|show ZH|show ZF|show ZM|show ZL|show ZO|show ZN|show ZP|show ZK|show ZG,rfl,by first|show Boot.len|show Boot.int|show Boot.abs|show Boot.min|show Boot.max|show Boot.sum|show Boot.sorted|show Boot.tuple|show Boot.list|show Boot.dict,by decide,by decide⟩)
structure Yb(T:String):Prop where
 ne:Str.ofString T≠"__name__"
 bo:bootBuiltins (Str.ofString T)=some (.type T)
 mem:Str.ofString T∈LR
def js(h:J2 b=some B):Yb B:=by cases b<;>first|show AS h;done|((have a:=AP h;clear h;subst a);show⟨by decide,by first|show Boot.tuple|show Boot.list|show Boot.bool|show Boot.int,by decide⟩)
def Ze(h:TB m=true):Jk m/\Jl m:=by cases m with|append=>show⟨Y9,Zf⟩|extend=>show⟨Y',Zg⟩|sort=>show⟨ZD,Zi⟩|get=>show⟨ZC,Zh⟩|_=>show AX h
def iq(h:Qg b=true):b=.JW:=by cases b with|JW=>rfl|_=>show AX h
def PE.bi(S:Ed C k n P G g)(L:d.handled=none)(t:d.units+40<cLine)(o:Ey C P G d i):PE C P G d (.bi b i):=λc y W e=>XK (K:=λz=>z.2=true->B8 C d _ _ _) (λu s h=>have B:=ZE s;have q:=JU W _ _ o (aR h);B8.of (b8 S.F L t B.ok B.pl q.ok q.s (gK W (aL h)) (gD (aL h)) (S.bt _ B.mem) B.ne B.bo) λr=>rfl) (λT p h=>have j:=js p;have f:=aL h;o.one W (aR h) (aR f) (K:=λi l=>B8 C d _ (Expr.Call _ (l++_) [] _) (AD P (.bi b i))) λa x q m=>B8.of (cM S.F p q m (gK W (aL (aL f))) (S.bt _ (by decide)) Boot.isinstance (gK W (aR (aL f))) (gD (aR (aL f))) (S.bt _ j.mem) j.ne j.bo) λr=>rfl) λh=>have f:=aL h;o.one W (aR h) (aR f) (K:=λi l=>B8 C d _ (Expr.Call _ [Expr.Call _ l [] _] [] _) (AD P (.bi b i))) λa x q m=>J (iq (aL (aL (aL f)))) (B8.of (cZ S.F L q m (gK W (aR (aL (aL f)))) (S.bt _ (by decide)) Boot.sorted (gK W (aR (aL f))) (S.bt _ (by decide)) Boot.set) λr=>rfl)
def PE.glob(S:Ed C k n P G g)(i):PE C P G d (.glob i):=λc y W e h=>B8.of (λr l V m q j s I R=>oV q (G:=λV m=>wpAny _ _ _ (λv o=>_) E0 s) λX a=>AJ (S.QK i _ a) λv b f=>Qr S.F I R (gK W h) (gD h) b (Ab.same I (.refl s) (f l j s I))) λp=>rfl
def sE(S:Ed C k n P G g)(D:FK d n)(m:ME):PE C P G d m:=ME.rec (λc y W e h=>B8.of cV λj=>rfl) (λb c y W e h=>B8.of cB λj=>rfl) (λb c y W e h=>B8.of cK λj=>rfl) (λb c y W e h=>B8.of cb λj=>rfl) (λi c y W e h=>B8.of (cm (S.nm i).symm (W.hk _▸gL (aL (aL h))) (nT (aR (aL h))) (nT (aR h))) λj=>rfl) (PE.glob S) (λl u c y W e h=>have q:=JU W l _ u (aR h);B8.of (cj q.ok (q.l▸A9 (aL h)) q.len) λj=>rfl) (λl u c y W e h=>have q:=JU W l _ u (aR h);B8.of (cO q.ok (q.l▸A9 (aL h)) q.len) λj=>rfl) (λl u c y W e h=>have q:=JU W l _ u (aR h);B8.of (cT q.ok (q.l▸A9 (aL h)) q.len) λj=>rfl) (λl u c y W e h=>have q:=h5 W _ l _ (Ag _) u (aR h);B8.of (cS q.ok q.s q.l (λH=>absurd (AZ (A9 (aL (aL h))) (H▸q.m)) (by decide)) (Nat.le_of_mul_le_mul_left (AQ q.n (A9 (aR (aL h)))) (by decide)) q.t) λj=>rfl) (λc y W e h=>B8.of cU λj=>rfl) (λN a b s w c y W e h=>B8.of (b9 (s c _ W _ (aL h)).1 (w c _ W _ (aR h)).1) λj=>rfl) (λa s c y W e h=>B8.of (cQ (s c _ W _ h).1) λj=>rfl) (λa s c y W e h=>have q:=s c _ W _ h;⟨cW q.1,jS q.2⟩) (λl u c y W e h=>have q:=hj W l _ u (aR h) (aL h);⟨Ui q.1,XE q.2⟩) (λl u c y W e h=>have q:=h6 W l _ u (aR h) (aL h);⟨Ui q.1,XE q.2⟩) (λN a b s w c y W e h=>have q:=s c _ W _ (aL h);have r:=w c _ W _ (aR h);have z:=V8 (Kr b _);⟨cE S.F D.Ii q.1 r.1 z,jP S.F D.Ii q.1 r.1 z⟩) (λa s c y W e h=>have q:=s c _ W _ h;⟨cL q.1,jQ q.1⟩) (λa s c y W e h=>have q:=s c _ W _ h;⟨cX q.1,jU q.1⟩) (λa Z b AC x s w A c y W e h=>have q:=s c _ W _ (aL h);have r:=w c _ W _ (aL (aR h));have t:=A c _ W _ (aR (aR h));have z:=V8 (Kr x _);⟨cD S.F D.Ii q.1 r.1 t.1 z,jO S.F D.Ii q.1 r.1 t.1 z⟩) (λx a b A s w c y W e h=>have q:=A c _ W _ (aL h);have r:=s c _ W _ (aL (aR h));have t:=w c _ W _ (aR (aR h));⟨cN q.2 r.1 t.1,jR q.2 r.2 t.2⟩) (λf l u c y W e h=>have q:=JU W l _ u (aR h);have z:=S.QH f (aR (aL h));B8.of (cC S.F S.K D.room q.ok q.s (gK W (aL (aL h))) (gD (aL (aL h))) z.1 z.2) λj=>rfl) (λo m l v u c y W e h=>have q:=JU W l _ u (aR (aR h));have z:=aL (aL h);B8.of (cP S.F S.GC S.K S.MF D.room (v c _ W _ (aL (aR h))).1 q.ok q.s (q.l▸A9 (aR z)) (kB.of (aL z)) (aR (aL h)) rfl) λj=>rfl) (λx c y W e h=>B8.of (cR S.F S.K S.MK D (gK W (aL h)) (gD (aL h)) (S.P0 x (aR h))) λj=>rfl) (λb Q=>PE.bi S D.hd D.Ii) (λo m l v u c y W e h=>have q:=JU W l _ u (aR (aR h));have E:=aR (aL h);have z:=aL E;have b:=Ze (aL (aL h));B8.of (cA S.F D.hd D.Ii b.1 b.2 (v c _ W _ (aL (aR h))).1 q.ok q.s (q.l▸A9 (aR z)) (kB.of (aL z)) (aR E) rfl) λj=>rfl) (λo a v c y W e h=>B8.of (b7 S.F S.GC (v c _ W _ (aR h)).1 (S.an a).symm (Y3 (kB.of (aL h)))) λj=>rfl) (λo i v B c y W e h=>B8.of (cJ S.F D.Ii (v c _ W _ (aL h)).1 (B c _ W _ (aR h)).1 (iW (Kr i _))) λj=>rfl) (λo i v B c y W e h=>B8.of (cY (v c _ W _ (aL (aR h))).1 gM (gN (B c _ W _ (aR (aR h))).1) (jd (aL h))) λj=>rfl) (λT R Db I L c y W e h=>Wj S D.hd W I L h (λgs f=>B8 C d _ (.ListComp _ gs _ _) f) λCh t i F p Do K fl Y O=>B8.of (cF D.hd O) λj=>rfl) (λAt a s c y W e h=>B8.of (cI (s c _ W _ (aR h)).1 (A9 (aL h))) λj=>rfl) (λe h=>PI.val h S.F) (λe=>PI.DL S) (λa b=>PI.zip S) (λp X V a b=>⟨a,b⟩) (λm h=>absurd h Cu) (λm M a b=>Bo.mpr ⟨a,b⟩) (λm h=>absurd h Cu) (λm M a b=>Bo.mpr ⟨a,b⟩) m
end
end
noncomputable section
mutual
open A
noncomputable def Stmt.q{b:Type}(j:Stmt)(H:b)(f:Option Expr->Pos->b)(d:List Expr->Expr->Pos->b)(kFor:Expr->Expr->List Stmt->List Stmt->Pos->b)(c:Expr->List Stmt->List Stmt->Pos->b)(e:Expr->Pos->b):b:=@Stmt.casesOn (λa=>b) j (λa a a a a a a a a a=>H) (λa a a a a a a a a a=>H) (λa a a a a a a a a a a=>H) f (λa a=>H) d (λa a a a a a a=>H) (λa a a a=>H) (λa a a a a=>H) kFor (λa a a a a=>H) c c (λa a a=>H) (λa a a=>H) (λa a a=>H) (λa a a=>H) (λa a a a a=>H) (λa a a a a=>H) (λa a a=>H) (λa a=>H) (λa a a a=>H) (λa a=>H) (λa a=>H) e (λa=>H) (λa=>H) λa=>H 
def hu(s:Stmt):List Expr:=Stmt.q s [] (λv a=>[v.getD x0]) (λb v a=>v::b) (λt i a a a=>[i,t]) (λc a a a=>[c]) λv a=>[v]
def OK(s:Stmt):List Stmt×List Stmt:=Stmt.q s ([],[]) (λc c=>([],[])) (λc c c=>([],[])) (λc c a b c=>(a,b)) (λc a b c=>(a,b)) λc c=>([],[])
def se(s:Stmt)(i:Nat):Expr:=(hu s).getD i x0
noncomputable def Ja(e:Kn)(c:ScopeKind)(d D:List Expr):Option (Option (List Str)):=if !(d.length==2||d.length==3)||D.length !=d.length||c !=.function then some none else if D.any (λx=>PySem.swappedStores.match_5 (λa=>Bool) x (λa a=>true) λa=>false)then some none else let f:=(d.head?.map (·.pos.line)).getD 0;let b:=d.filterMap λx=>PySem.swappedStores.match_8 (λa=>Option Str) x (λid g=>if e id==some .local&&g.line==f then some id else none) λa=>none;if b.length !=d.length||b.eraseDups.length !=b.length then some none else if D.all (foldedForSure 8)then some none else if D.all (constantsAlone 8)then none else some (some b)
noncomputable def Rp(a:Kn)(A:Str)(x j:Expr):Bool:=a A==some .local&&x.pos.line==j.pos.line&&!(EO j).2.names.any λ(n,k)=>n==A&&(k==.local||k==.cell) 
def Lv(m:ME):Bool:=Nat.beq m.ix 29
def Qh(m:ME):Bool:=Nat.beq m.ix 6
noncomputable def V1(p:PT):Option Nat:=PT.casesOn (motive_1:=λa=>Option Nat) p some λa=>none
def Q2(t:AT):Option Nat:=AT.casesOn (motive_1:=λa=>Option Nat) t V1 (λa a=>none) (λa a=>none) λa=>none
noncomputable def WW(t:AT):Option (List PT):=AT.casesOn (motive_1:=λa=>Option (List PT)) t (λp=>PT.casesOn (motive_1:=λa=>Option (List PT)) p (λa=>none) some) (λa a=>none) (λa a=>none) λa=>none
def Rr(t:AT):Bool:=AT.casesOn (motive_1:=λa=>Bool) t tupP (λa a=>false) (λa a=>false) λa=>true
def Q3(a:List PT):Option (List Nat):=List.rec (motive:=λb=>Option (List Nat)) (some []) (λp b r=>(V1 p).bind λi=>r.map (i::·)) a
end
section
mutual
open A
variable(G:Gt)(a:Nat->Bool)
def N9(t:AT)(m:ME)(b:Kn)(x j:Expr):Bool:=IX (Q2 t) (λi=>!(Lv m&&Rp b (G.nm i) x j)||Rl (λe=>true) b (G.nm i)) true&&bif Qh m&&Rr t then IX (Ja b .function (kids x) (kids j)) (λr=>IX r (λl=>IX (WW t) (λd=>IX (Q3 d) (λc=>decide (l=c.map G.nm)&&decide c.Nodup) false) false) true) false else true
end
mutual
def Ry:MS->Kn->Stmt->Stmt×Bool|.assign t m=>λd s=>tc (N9 G t m d (EH G a t d (se s 1)).1 (tr G m d (se s 0)).1) (t2 (λx e=>.Assign [x] e s.pos) (EH G a t d (se s 1)) (tr G m d (se s 0)))|.expr m=>λd s=>tc (!Lv m) (t1 (λx=>.Expr x s.pos) (tr G m d (se s 0)))|.ret m=>λd s=>t1 (λx=>.Return (some x) s.pos) (tr G m d (se s 0))|.OI=>λf s=>(.Return none s.pos,true)|.ite c h b=>λd s=>t2 (λx(y:List Stmt×List Stmt)=>.If x y.1 y.2 s.pos) (tr G c d (se s 0)) (t2 Prod.mk (FF h d (OK s).1) (FF b d (OK s).2))|.for p g b=>λd s=>tc (SS g p) (t2 (λx(y:Expr×List Stmt)=>.For x y.1 y.2 [] s.pos) (Hx G p (λf=>true) d (se s 1)) (t2 Prod.mk (Kq G g d (se s 0)) (FF b d (OK s).1)))|.while c b=>λd s=>t2 (λx y=>.While x y [] s.pos) (tr G c d (se s 0)) (FF b d (OK s).1)|.cont=>λf s=>(.Continue s.pos,true)|.Hu _ _ _=>λf s=>(s,false)|.fail=>λf s=>(s,true)
def FF:List MS->Kn->List Stmt->List Stmt×Bool|[]=>λe e=>([],true)|m::d=>λb c=>t2 List.cons (Ry m b (c.headD (.Pass default))) (FF d b c.tail)
end
end
end
section
mutual
open A
variable{C:Cx}{x:Nat->Addr}{n:Nat}{P:Pg}{G:Gt}{s:Nat->Bool}{u:Around}{o:Kn}{y:PySem.Env}{ow:Str->Bool}
def sI(S:Ed C x n P G s)(D:FK u n)(m:MI):PI C P G u m:=by cases m with|val e=>show PI.val (sE S D e) S.F|DL e=>show PI.DL S (sE S D e)|zip a b=>show PI.zip S (sE S D a) (sE S D b)
def hy(S:Ed C x n P G s)(D:FK u n)(g:MG):PG C P G u g:=by cases g;show⟨sI S D _,λm a=>sE S D m⟩
def PA(C:Cx)(P:Pg)(G:Gt)(s:Nat->Bool)(u:Around)(t:AT):Prop:=∀o y,Fr o y->∀e,(EH G s t o e).2=true->HK C u G5 y (EH G s t o e).1 (Gl P t)
structure Xh(C:Cx)(A:Around)(env:PySem.Env)(n:Nat)(es:List Expr)(f:Ss):Prop where
 ok:Kz C A G5 env es f
 l:n=es.length
 s:es.all (λe=>!isStar e)=true
def YS(C:Cx)(P:Pg)(G:Gt)(s:Nat->Bool)(u:Around)(d:List AT):Prop:=∀o y,Fr o y->∀a,(Oe G s d o a).2=true->Xh C u y d.length (Oe G s d o a).1 (JZ P d)
def iy:∀{D}{e}{f:St}{r},JZ P d D e f=some r->D.length=d.length:=by induction d with|nil=>showλh=>AE _ (isEmpty_nil (oT h).1)|cons t d b=>intro D e f r h;cases D with|nil=>show AS h|cons v D=>show oB h λc c a=>AE _ (b a)
def Rw(t:AT)(j):isStar (EH G s t o j).1=false:=by cases t with|pt p=>show Rx p j|_=>rfl
def sA(S:Ed C x n P G s)(D:FK u n)(t:AT):PA C P G s u t:=AT.rec (motive_2:=YS C P G s u) (λp o y W e h=>Yw (sP S D.hd p _ o _ W e h).1) (λc a o y W e h=>Yu S.F S.GC (sE S D c o _ W _ (aR h)).1 (S.an a).symm (S.PW a (aL h))) (λc i o y W e h=>Yx D.Ii (sE S D c o _ W _ (aL h)).1 (sE S D i o _ W _ (aR h)).1) (λg b o y W e h=>have q:=b o _ W _ h;Yz D.hd q.ok (λj k l r z=>(iy z).trans q.l) q.s) (λo y W d h=>⟨Y1,rfl,rfl⟩) (λt g b f o y W d h=>have q:=f o _ W _ (aR h);⟨Y0 (b o _ W _ (aL h)) q.ok (Rw t _),AE _ q.l,PO (Rw t _) q.s⟩) t
def TA(W:Fr o y):y.blockKind=.function:=by unfold Env.blockKind;show J W.hf ?_;rfl
def XD(h:Lv m=false):swapsWith (tr G m o v).1 t l y=pure false:=jD (Kr m v) (XO h (by decide+kernel) (λj=>rfl) v)
def XC(W:Fr o y):swapsWith (.ListComp a gs b p) (some (.Name A q)) l y=pure (Rp o A (.Name A q) (.ListComp a gs b p)):=by unfold swapsWith;dsimp only;show J (TA W) ?_;rewrite[W.hk];rfl
def L2{f g:Type}{c}[Decidable c](w:f->g){a b:f}{d e:g}(i:d=w a)(j:e=w b):(if c then d else e)=w (if c then a else b):=by
 by_cases h:c;·show J (AG h) (J (AG h) i)
 ·show J (AF h) (J (AF h) j)
noncomputable def F4:Option (Option (List Str))->Sem (Option (List Str))|some r=>pure r|none=>unsupported "assign.tuple-of-constant-expressions:order-of-the-stores"
def jI(a:y.blockKind=.function):swappedStores [.Tuple d k p] (.Tuple D j l) y=F4 (Ja y.kindOf .function d D):=by show Eq.trans ?_ (AE (λb=>F4 (Ja _ b d D)) a);delta swappedStores Ja;show L2 F4 rfl (L2 F4 rfl (L2 F4 rfl (L2 F4 rfl (L2 F4 rfl rfl))))
def jE(h:FZ 25 j=false):swappedStores [.Tuple d k p] j y=pure none:=by cases j with|Tuple=>show Ck h|_=>rfl
def jG(h:Qh m=false):swappedStores [.Tuple d k p] (tr G m o v).1 y=pure none:=jE (XO h (by decide+kernel) (λj=>rfl) v)
def jH{t:AT}(h:Rr t=false):swappedStores [(EH G s t o A).1] j y=pure none:=by cases t with
 |pt p=>cases p with|nm=>rfl|tup=>show Ck h
 |tup=>show Ck h|_=>rfl
def XF{t:AT}(h:Rr t=true){K:_->Prop}(k:∀l j p,K (.Tuple l j p)):K (EH G s t o A).1:=by cases t with
 |pt p=>cases p with|nm=>show AX h|tup=>show k _ _ _
 |tup=>show k _ _ _|_=>show AX h
def jc{m:ME}(h:Qh m=true){K:_->Prop}(k:∀l j p,K (.Tuple l j p)):K (tr G m o v).1:=by cases m with|tup a=>show k _ _ _|_=>show AX h
def aq(h:Lv m=true){K:ME->Prop}(k:∀b a r,K (.comp b a r)):K m:=by cases m with|comp e g v=>show k e g v|_=>show AX h
def WX(h:WW t=some a):t=.pt (.tup a):=by cases t with
 |pt p=>cases p with|nm=>show AS h|tup=>show AE (λl=>AT.pt _) (AP h)
 |_=>show AS h
def f5(h:Q2 t=some i):t=.pt (.nm i):=by cases t with
 |pt p=>cases p with|nm=>show AE (λl=>AT.pt _) (AP h)|tup=>show AS h
 |_=>show AS h
def V2:∀{p},Q3 a=some p->a=p.map .nm/\∀i∈p,i∈MN a:=by induction a with|nil=>showλh=>AP h▸⟨rfl,λi b=>b⟩|cons f a d=>intro p h;cases f with|nm i=>show oM (show(Q3 a).map _=_ from h) (G:=λp=>_=_/\∀j∈p,j∈_) λr e=>have q:=d e;⟨AE _ q.1,λj c=>BU.mpr ((BU.mp c).imp id (q.2 j))⟩|tup=>show AS h
def gJ[Decidable p](h:(!decide p)=true):¬p:=of_decide_eq_false (nT h)
def PV(S:Ed C x n P G s)(D:FK u n)(W:Fr o y)(M:(EH G s t o A).2=true)(Q:(tr G m o v).2=true)(h:N9 G t m o (EH G s t o A).1 (tr G m o v).1=true)(L:swapsWithSole [(EH G s t o A).1] (tr G m o v).1 AC.line y=pure false):D5 C u G5 y (.Assign [(EH G s t o A).1] (tr G m o v).1 AC) (A8 P (.assign t m)):=by have q:=(sE S D m o _ W v Q).1;have a:=λf=>cv q (sA S D t o _ W A M) L f (Rw t A);have h:=aR h;cases c:_&&_ with|false=>show a ((Bool.eq_false_or_eq_true _).elim (λd=>XF d (K:=λg=>swappedStores [g] _ _=_) λl j p=>jG ((Bool.and_eq_false_iff.mp c).resolve_right λz=>Ck (d.symm.trans z))) λd=>jH d)|true=>have f:swappedStores [(EH G s t o A).1] (tr G m o v).1 y=_:=XF (aR c) (K:=λg=>swappedStores [g] _ _=F4 (Ja o _ (kids g) _)) λl j p=>jc (aL c) (K:=λe=>swappedStores _ e _=F4 (Ja o _ l (kids e))) λY F K=>(jI (TA W)).trans (AE (λk=>F4 (Ja k _ l Y)) (funext W.hk));show Kc (G:=λz=>z=_->_) (λr H=>Kc (G:=λz=>z=_->_) (λl N=>Kc (G:=λz=>z=_->_) (λR E=>Kc (G:=λz=>z=_->_) (λT B I=>J (AE (λt=>A8 P (.assign t m)) ((WX E).trans (AE (λl=>AT.pt _) (V2 B).1))) (c4 D.hd q L (f.trans (AE F4 (H.trans (AE _ (N.trans (AE _ ((A9 (aL I)).trans (AE T.map (funext S.nm).symm)))))))) (A9 (aR I)) λi z=>(sP S D.hd _ _ o _ W A ((AE (λt=>(EH G s t o A).2) (WX E)).symm.trans M)).2 i ((V2 B).2 i z))) λw h=>AX h) λw h=>AX h) λO w=>a (f.trans (AE F4 (H.trans (AE _ O))))) (λw h=>AX h) ((AE (λb=>cond b _ _) c).symm.trans h)
def Yt(S:Ed C x n P G s)(D:FK u n)(W:Fr o y)(d:(EH G s t o A).2=true)(a:(tr G m o v).2=true)(h:N9 G t m o (EH G s t o A).1 (tr G m o v).1=true):D5 C u G5 y (.Assign [(EH G s t o A).1] (tr G m o v).1 q) (A8 P (.assign t m)):=by cases k:Lv m with|false=>show PV S D W d a h (XD k)|true=>show aq k (K:=λm=>(tr G m o v).2=_->N9 G t m o _ (tr G m o v).1=_->D5 C u G5 _ (.Assign _ (tr G m o v).1 _) (A8 P _)) (λw B H a h=>?_) a h;cases l:Q2 t with
  |none=>show PV S D W d a h ?_;cases t with
   |pt p=>cases p with|nm=>show Ce l|tup=>rfl
   |_=>rfl
  |some i=>have e:=f5 l;subst e;cases c:Rp o _ _ (tr G (.comp _ _ _) o v).1 with|false=>show PV S D W d a h ((XC (l:=q.line) W).trans (AE _ c))|true=>have r:A8 P (.assign (.pt (.nm i)) (.comp w B H))=_:=rfl;show J r (Wj S D.hd W (sE S D _) (λg Q=>hy S D g) a (λgs f=>swapsWith _ _ q.line _=_->D5 C u G5 _ (.Assign _ (.ListComp _ gs _ _) _) λb j=>(f b j).bind λ(v,j)=>((BP (.nm i) v b).map λb=>(b,j)).map _) (λM t i L p N K fl I O E=>cw D.hd O (S.nm _).symm (Rm W ((GD.mp (aL h)).resolve_left λz=>AX ((AE _ c).symm.trans z))) E) ((XC W).trans (AE _ c)))
def PS(C:Cx)(P:Pg)(G:Gt)(s:Nat->Bool)(u:Around)(m:MS):Prop:=∀o y,Fr o y->∀a,(Ry G s m o a).2=true->D5 C u G5 y (Ry G s m o a).1 (A8 P m)
def YU(C:Cx)(P:Pg)(G:Gt)(s:Nat->Bool)(u:Around)(a:List MS):Prop:=∀o y,Fr o y->∀b,(FF G s a o b).2=true->GI C u G5 y (FF G s a o b).1 (Ao P a)
def h8(S:Ed C x n P G s)(D:FK u n)(g):YU C P G s u g:=MS.rec_1 (motive_1:=PS C P G s u) (λt m o y W d h=>Yt S D W (aL (aR h)) (aR (aR h)) (aL h)) (λm o y W d h=>cy W.hf (sE S D m o _ W _ (aR h)).1 (XD (nT (aL h)))) (λm o y W d h=>c2 (sE S D m o _ W _ h).1) (λo y W d h=>c3) (λc a b i e o y W d h=>c1 (sE S D c o _ W _ (aL h)).2 (i o _ W _ (aL (aR h))) (e o _ W _ (aR (aR h)))) (λp l b e o y W d h=>have q:=sI S D l o _ W p _ o _ _ (aL h) (aL (aR (aR h)));c0 D.hd q.1 (sP S D.hd p _ o _ W _ (aL (aR h))).1 (e o _ W _ (aR (aR (aR h)))) (QJ q.2)) (λc b e o y W d h=>c5 (sE S D c o _ W _ (aL h)).2 (e o _ W _ (aR h))) (λo y W d h=>cx) (λf d c o y W d h=>AX h) (λo y W d h=>cz) (λo y W r h=>c8) (λm g j k o y W r h=>c7 (j o _ W _ (aL h)) (k o _ W _ (aR h))) g
end
end
mutual
open A
def RJ(B:Ee)(n:Nat):Pg:=⟨Ae B n,B.glob,B.Af,B.init,B.wf⟩
structure Txt(C:Cx)(fa:Nat->Addr)(T:Ee)(G:Gt)(GY:Nat->Bool):Prop where
 F:Facts C
 GC:GG C
 MF:PC C fa G.mn T.Af
 MK:PB C fa T.init
 nm:∀i,C.nm i=G.nm i
 an:∀i,C.an i=G.an i
 QH:∀f,G.Hn f=true->nsIn C.K mainGlobals (G.fn f)=some (some (.ref (fa f)))/\keepIn C.K (.ref (fa f))=true
 P0:∀c,G.Qc c=true->nsIn C.K mainGlobals (G.cn c)=some (some (.ref (C.cls c)))
 QK:∀i V,T.glob i=some V->∃v,nsIn C.K mainGlobals (G.gl i)=some (some v)/\∀σ μ s,Inv C σ μ s->VR σ μ s.heap V v
 bt:∀x∈LR,nsIn C.K mainGlobals x=some none
 PW:∀a,GY a=true->∀c,findIn C.K (.ref (C.cls c)) (C.an a)=some none
 fns:∀f F,T.fn f=some F->(∃fd body,FnAt C (fa f) F fd body/\(FF G GY F.body (λx=>fd.scope.names.lookup x) body).2=true/\(FF G GY F.body (λx=>fd.scope.names.lookup x) body).1=body)\/
  (∀n,Fi C fa n (Ae T n)->∀A,E1 A (n+1)->∀Vs σ V FJ,Ke (RJ T n) F Vs σ=some (V,FJ)->∀μ s vs,Inv C σ μ s->AM σ μ s.heap Vs vs->codeAny (model C.prog C.w) A (.call (.ref (fa f)) ⟨vs,[]⟩) (GF C σ μ s.heap V FJ) s)
end
section
mutual
open A
variable{C:Cx}{a:Nat->Addr}{n:Nat}{B:Ee}{G:Gt}{b:Nat->Bool}{A:Around}{k:Nat}{c:Kn}{y:PySem.Env}
def Txt.sim(X:Txt C a B G b)(K:Fi C a n (Ae B n)):Ed C a n (RJ B n) G b:=⟨X.F,X.GC,K,X.MF,X.MK,X.nm,X.an,X.QH,X.P0,X.QK,X.bt,X.PW⟩
def aS(X:Txt C a B G b):∀n,Fi C a n (Ae B n):=by intro n;induction n with|zero=>showλA d f e i V j h=>AS h|succ n l=>have K:=l;showλA d f e i V j h v s u I q=>oB h λF m h=>(X.fns f F m).elim (λr=>Dc r λz w g o p=>dK X.F g d (λL=>p▸h8 (X.sim K) (d.deeper _) _ _ _ ⟨λx=>rfl,g.kind⟩ _ o) h I q) λt=>t n K A d e i V j h v s u I q
end
end
mutual
open A
def kZ{d:Type}{a:List Str}:∀{D:List d},D.length=a.length->∀n∈a,((a.zip D).lookup n).isSome=true:=by induction a with|nil=>showλf n h=>absurd h Cu|cons x a c=>intro D h n b;cases D with|nil=>show Nat.noConfusion h|cons v D=>
   by_cases e:n=x;·subst e;show AE _ L3
   ·show(AE _ (L4 e)).trans (c (Ew h) n ((BU.mp b).resolve_left e))
def dH{c f:Type}{w g:c->Option f}:∀{l:List c},(∀a∈l,w a=g a)->l.filterMap w=l.filterMap g:=by intro l;induction l with|nil=>intro i;show rfl|cons a l d=>intro h;show J List.filterMap_cons (J List.filterMap_cons (J (h a AR) (J (d λb e=>h b (Ah _ e)) rfl)))
def kX{i:Type}{a:List Str}:∀{D:List i},a.Nodup->D.length=a.length->a.filterMap (λn=>((a.zip D).lookup n).map (n,·))=a.zip D:=by induction a with|nil=>showλg g=>rfl|cons x a f=>intro D d h;cases D with|nil=>show Nat.noConfusion h|cons v D=>have c:=DO.mp d;show(List.filterMap_cons_some (f:=λn=>(((x,v)::_).lookup n).map _) (AE _ (L3))).trans (AE _ ((dH λn b=>AE _ (L4 (x:=x) λe=>c.1 (e▸b))).trans (f c.2 (Ew h))))
def dD{a:Type}{M}(h:M=[]){b:c}{w:a->c->Sem _}:forIn M b w=pure b:=h▸rfl
def kj{a b:Type}{l:List a}:l.zip (([]:List b).drop k)=[]:=J List.drop_nil (J List.zip_nil_right rfl)
def f7{a:List Str}{b:List Value}(c:b.length=a.length)(k):(a.take k).filter (λn=>((a.zip b).lookup n).isNone)=[]:=List.filter_eq_nil_iff.mpr λn d e=>by cases PF.mp e▸kZ c n (List.mem_of_mem_take d) 
def ZY{kd}(c:(e.map (·.arg)).Nodup)(a:b.length=(e.map (·.arg)).length):bindArgs ⟨i,j,⟨[],e,none,[],kd,none,f⟩,d,s,g,cl,.none,k,l,n,o,p,q,r⟩ ⟨b,[]⟩=pure ((e.map (·.arg)).zip b):=Eq.trans (AF λh=>absurd (A9 (aL h)) (D8.mpr (AY a))) (Eq.trans (AF λh=>AX ((nT h).symm.trans (AE _ (f7 a _)))) (Eq.trans (AE (λm:_=>m>>=_) (dD kj)) (AE (pure (f:=Sem)) (Eq.trans (AE _ (Bv _)) (kX c a)))))
def ZZ(j:g.params.posonlyargs=[])(f:g.params.args.map (·.arg)=h)(h3:g.params.vararg=none)(k:g.params.kwonlyargs=[])(l:g.params.kwarg=none)(m:g.defaults=.none)(o:h.Nodup)(n:i.length=h.length):bindArgs g ⟨i,[]⟩=pure (h.zip i):=f▸(congr (congr (congr (congr (AE (λa b c d e=>bindArgs ⟨g.name,_,⟨a,_,b,c,g.params.kw_defaults,d,g.params.defaults⟩,g.body,g.scope,g.globals,g.closure,e,_,g.doc,g.pyModule,g.annotations,g.code,g.closureTuple,g.builtins⟩ _) j) h3) k) l) m).trans (ZY (f▸o) (f▸n))
noncomputable def F7(l:List Str)(i:Nat):Str:=match l[i]? with|some s=>s|none=>⟨(List.replicate (i+1) 0).toArray⟩
noncomputable def namesOk(l:List Str):Bool:=decide l.Nodup&&l.all λs=>s.cps.toList.any (·!=0)
def V0(h:namesOk l=true):∀i j,F7 l i=F7 l j->i=j:=by
 unfold namesOk at h;simp only[Ct,Lb,DD]at h;show AV h λo n=>?_;(skip);have f:∀(s:Str)(k),_->s≠⟨(List.replicate (k+1) 0).toArray⟩:=λs k p e=>by have:=n s p;rw[e]at this;simp only[Ds]at this;show AJ this λc d q=>?_;(skip);simp at d;subst d;show AX q
 intro i j e;unfold F7 at e;cases b:l[i]? with
 |some s=>cases a:l[j]? with|some t=>rw[b,a]at e;dsimp only at e;subst e;show Ac (Jt.mp b) λr g=>?_;show Ac (Jt.mp a) λu m=>?_;show(List.getElem_inj o).mp (g.trans m.symm)|none=>rw[b,a]at e;show absurd e (f s j (Ms b))
 |none=>cases a:l[j]? with|some t=>rw[b,a]at e;show absurd e.symm (f t i (Ms a))|none=>
   rw[b,a]at e;have:=by have:=AE (λs:_=>s.cps.size) e;simpa using this
   simpa using this
noncomputable def GX{a:Type}(o:Option a)(p:a->Bool):Bool:=Option.casesOn (motive:=λb=>Bool) o false p
def G6{o:Option b}{p}(h:GX o p=true){G:Prop}(k:∀a,o=some a->p a=true->G):G:=by cases o with|none=>show AX h|some a=>show k a rfl h
noncomputable def Qb(x:Option (Option Value))(t:String):Bool:=decide (x=some (some (.builtin t)))
noncomputable def Ly(x:Option (Option Value)):Bool:=decide (x=some none)
noncomputable def KW(x:Option (Option Value))(b:Addr):Bool:=decide (x=some (some (.ref b)))
noncomputable def DU(x:Option Value)(t:String):Bool:=decide (x=some (.type t))
noncomputable def R6(v:Value):Option Addr:=Value.c v none (λa=>none) (λa a=>none) (λa a=>none) some
noncomputable def vInt(v:Value):Option Int:=Value.c v none (λa=>none) (λi a=>some i) (λa a=>none) λa=>none
def j6(h:R6 v=some a):v=.ref a:=by cases v with|ref b=>show AE _ (AP h)|_=>show AS h
def j5(h:vInt v=some x):∃t,v=.int x t:=by cases v with|int b t=>show⟨t,AP h▸rfl⟩|_=>show AS h
noncomputable def Wd(x:Option (Option Value)):Addr:=(x.bind λy=>y.bind R6).getD 0
def VS(h:Qb x t=true):x=some (some (.builtin t)):=A9 h
def Qf(h:Ly x=true):x=some none:=A9 h
def Lz(h:KW x b=true):x=some (some (.ref b)):=A9 h
def VU(h:DU x t=true):x=some (.type t):=A9 h
noncomputable def NK{d:Type}(H:Data)(q:Array Value->Option d)(c:Option Value->Option d)(w:FuncData->Option d)(v:Array Value->Option d):Option d:=Data.casesOn (motive:=λb=>Option d) H none (λb=>none) (λa b=>q a) (λb b=>none) (λb b b=>none) (λb b=>none) c w (λb=>none) v none
noncomputable def fdOf(K:Frag)(a:Addr):Option FuncData:=(K.lookup a).bind λo=>NK o.data (λb=>none) (λb=>none) some λb=>none
noncomputable def dF(K:Frag)(a:Addr):Option (Array Value):=(K.lookup a).bind λo=>NK o.data (λb=>none) (λb=>none) (λb=>none) some
noncomputable def XP(K:Frag)(a:Addr):Option (Array Value):=(K.lookup a).bind λo=>NK o.data (λa=>if o.cls=.type "tuple"/\o.dict=none then some a else none) (λb=>none) (λb=>none) λb=>none
def Tv{K:Frag}{q:_->_->_}{c}{w}{v}{r:j}(h:((K.lookup a).bind λo=>NK o.data (q o.cls o.dict) c w v)=some r){G:Prop}(g:∀cl H x n b,K.lookup a=some ⟨cl,H,.seq x n,b⟩->q cl H x=some r->G)(u:∀cl H x b,K.lookup a=some ⟨cl,H,.cell x,b⟩->c x=some r->G)(f:∀cl H x b,K.lookup a=some ⟨cl,H,.func x,b⟩->w x=some r->G)(i:∀cl H x b,K.lookup a=some ⟨cl,H,.fields x,b⟩->v x=some r->G):G:=oB h λo e h=>by obtain⟨cl,H,d,b⟩:=o;cases d with|seq x n=>show g cl H x n b e h|cell x=>show u cl H x b e h|func x=>show f cl H x b e h|fields x=>show i cl H x b e h|_=>show AS h
def dB{K}(h:fdOf K a=some g):∃L b y,K.lookup a=some ⟨L,b,.func g,y⟩:=Tv (q:=λc c c=>_) h (λc c c c c c e=>AS e) (λc c c c c e=>AS e) (λf d x i e h=>⟨f,d,i,AP h▸e⟩) λc c c c c e=>AS e
def jg{K}(h:XP K a=some D){f:Prop}(i:∀n c,K.lookup a=some ⟨.type "tuple",none,.seq D n,c⟩->f):f:=Tv (q:=λg d a=>if g=_/\d=_ then some a else _) h (λg d x n c e h=>by(show AV (oT h) λj h=>?_;rcases j with⟨rfl,rfl⟩);show i n c (AP h▸e)) (λb b b b b e=>AS e) (λb b b b b e=>AS e) λb b b b b e=>AS e
noncomputable def M1(b:FuncBody):Option (List Stmt):=FuncBody.casesOn (motive:=λa=>Option (List Stmt)) b some λa=>none
def Y7(h:M1 b=some l):b=.stmts l:=by cases b with|stmts a=>show AE _ (AP h)|expr=>show AS h
noncomputable def isFun(s:Scope):Bool:=decide (s.kind=.function)&&!s.isGenerator&&!s.isCoroutine
noncomputable def RH(g:FuncData)(a:List Str):Bool:=g.params.posonlyargs.isEmpty&&decide (g.params.args.map (·.arg)=a)&&g.params.vararg.isNone&&g.params.kwonlyargs.isEmpty&&g.params.kwarg.isNone&&decide (g.defaults=.none)&&decide a.Nodup
def WM(h:RH g b=true)(d:c.length=b.length):bindArgs g ⟨c,[]⟩=pure (b.zip c):=have a:=aL (aL (aL (aL h)));ZZ (eT (aL (aL a))) (A9 (aR (aL a))) (PF.mp (aR a)) (eT (aR (aL (aL (aL h))))) (PF.mp (aR (aL (aL h)))) (A9 (aR (aL h))) (A9 (aR h)) d
def Uo(K:Frag)(G:Gt)(c:Nat->Bool)(a:Addr)(F:Fn):Bool:=GX (fdOf K a) λb=>GX (M1 b.body) λd=>Nat.beq b.globals mainGlobals&&Nat.beq b.builtins builtinsNs&&b.closure.isEmpty&&isFun b.scope&&codeIn K b.code b.qualname&&RH b (F.params.map G.nm)&&decide F.params.Nodup&&decide (b.scope.names.map (·.1)).Nodup&&(F.params.all λi=>decide (b.scope.names.lookup (G.nm i)=some .local)||decide (b.scope.names.lookup (G.nm i)=some .cell))&&(FF G c F.body (λx=>b.scope.names.lookup x) d).2
def Pf(K:Frag)(a:Addr):List Stmt:=((fdOf K a).bind λb=>M1 b.body).getD []
def Ph(K:Frag)(G:Gt)(c:Nat->Bool)(a:Addr)(F:Fn):List Stmt:=((fdOf K a).bind λb=>(M1 b.body).map λd=>(FF G c F.body (λx=>b.scope.names.lookup x) d).1).getD []
def dJ(m:∀i,C.nm i=G.nm i)(h:Uo C.K G c a F=true)(e:Ph C.K G c a F=Pf C.K a):∃g b,FnAt C a F g b/\(FF G c F.body (λx=>g.scope.names.lookup x) b).2=true/\(FF G c F.body (λx=>g.scope.names.lookup x) b).1=b:=G6 h λg l h=>G6 h λb j h=>have f:=aL (aL (aL (aL h)));have d:=aL (aL f);have k:=aR d;⟨g,_,⟨dB l,LD (aL (aL (aL d))),LD (aR (aL (aL d))),eT (aR (aL d)),A9 (aL (aL k)),nT (aR k),nT (aR (aL k)),aR (aL f),Y7 j,λq p=>funext m▸WM (aR f) (p.trans (Al ..).symm),A9 (aR (aL (aL (aL h)))),A9 (aR (aL (aL h))),λi n=>(m i).symm▸(GD.mp (DD.mp (aR (aL h)) i n)).imp A9 A9⟩,aR h,by have e:(((fdOf C.K a).bind _)).getD []=((fdOf C.K a).bind _).getD []:=e;rw[l]at e;show(AE (λo:Option _=>(o.map λb=>(FF G c _ _ b).1).getD []) j).symm.trans (e.trans (AE (·.getD []) j))⟩
def QY(x:V)(v:Value):Bool:=GX (intOf x) λi=>decide (vInt v=some i)
noncomputable def R5(w:V->Value->Bool):List V->List Value->Bool|[]=>λa=>a.isEmpty|x::b=>λa=>List.casesOn (motive:=λc=>Bool) a false λv a=>w x v&&R5 w b a
def R4(K:Frag):Nat->V->Value->Bool|0=>QY|d+1=>λx v=>QY x v||GX (FG x) λb=>GX (R6 v) λa=>GX (XP K a) λc=>decide (b.length<=1000)&&R5 (R4 K d) b c.toList
structure Ez where
 Ek:List (Nat×Fn)
 KL:List (Nat×Option Nat×Str)
 L8:List ((Nat×Nat)×Nat)
 Ls:List (Nat×Nat)
 QL:List (Nat×V×Str)
 vars:List Str
 attrs:List Str
 meths:List Str
 classes:List Str
 PX:List Nat
 spec:List Nat
 wf:Nat
noncomputable def Ez.OZ(p:Ez):Ee:=⟨λi=>p.Ek.lookup i,λi=>(p.QL.lookup i).map (·.1),λc m=>p.L8.lookup (c,m),λc=>p.Ls.lookup c,p.wf⟩
def eL(o:Option (Option Nat×Str)):Bool:=GX o λp=>p.1.isNone
def Ez.gt(p:Ez):Gt:=⟨F7 p.vars,F7 p.attrs,F7 p.meths,λf=>((p.KL.lookup f).map (·.2)).getD Str.empty,λc=>(p.classes[c]?).getD Str.empty,λi=>((p.QL.lookup i).map (·.2)).getD Str.empty,λf=>eL (p.KL.lookup f),λc=>decide (c<p.classes.length)⟩
noncomputable def Ez.GY(p:Ez)(a:Nat):Bool:=p.PX.contains a
noncomputable def Ej(K:Frag)(p:Ez)(c:Nat):Addr:=Wd (nsIn K mainGlobals ((p.classes[c]?).getD ((p.classes[0]?).getD Str.empty)))
noncomputable def Du(K:Frag)(p:Ez)(w:Nat):Addr:=((p.KL.lookup w).map λe=>Wd (Option.casesOn (motive:=λa=>Option (Option Value)) e.1 (nsIn K mainGlobals e.2) λc=>findIn K (.ref (Ej K p c)) e.2)).getD 0
def Tf(K:Frag)(a:Addr):Bool:=Qb (findIn K (.ref a) "__getattribute__") "object.__getattribute__"&&Ly (findIn K (.ref a) "__getattr__")&&Qb (findIn K (.ref a) "__setattr__") "object.__setattr__"&&plainOver K a&&hasDictIn K a&&(K.lookup a).isSome
def XT(K:Frag)(p:Ez):Bool:=namesOk p.vars&&namesOk p.attrs&&(List.range p.classes.length).all (λc=>Tf K (Ej K p c)&&p.PX.all λa=>Ly (findIn K (.ref (Ej K p c)) (F7 p.attrs a)))&&decide (0<p.classes.length)&&p.L8.all (λe=>decide (e.1.1<p.classes.length)&&KW (findIn K (.ref (Ej K p e.1.1)) (F7 p.meths e.1.2)) (Du K p e.2)&&DU (typeIn K (.ref (Du K p e.2))) "function"&&keepIn K (.ref (Du K p e.2)))&&p.Ls.all (λe=>decide (e.1<p.classes.length)&&makesIn K (Ej K p e.1)&&KW (findIn K (.ref (Ej K p e.1)) "__init__") (Du K p e.2)&&DU (typeIn K (.ref (Du K p e.2))) "function"&&keepIn K (.ref (Ej K p e.1)))&&p.KL.all (λe=>e.2.1.isSome||KW (nsIn K mainGlobals e.2.2) (Du K p e.1)&&keepIn K (.ref (Du K p e.1)))&&(List.range p.classes.length).all (λc=>KW (nsIn K mainGlobals ((p.classes[c]?).getD Str.empty)) (Ej K p c))&&p.QL.all (λe=>GX (nsIn K mainGlobals e.2.2) λo=>GX o λv=>R4 K 5 e.2.1 v)&&LR.all λx=>Ly (nsIn K mainGlobals x) 
def TC(K:Frag)(p:Ez)(w:Nat):List Stmt:=((p.Ek.lookup w).map (Ph K p.gt p.GY (Du K p w))).getD []
def Uq(K:Frag)(p:Ez)(l:List Nat):Bool:=l.all λf=>GX (p.Ek.lookup f) λF=>Uo K p.gt p.GY (Du K p f) F
end
section
mutual
open A
variable{C:Cx}
def j'(I:Inv C f d s)(h:C.h0.get? a=some o):Be f d a:=by
 show⟨λn b=>⟨?_,?_⟩,λq=>?_⟩;·rintro rfl;rw[(I.fresh n b).1]at h;show AS h
 ·rintro rfl;rw[(I.fresh n b).2]at h;show AS h
 ·rw[I.Dv a q]at h;show AS h
def j3(E:∀V v,w V v=true->VR f d h V v)(u):∀D:_,R5 w u D=true->AM f d h u D:=by induction u with|nil=>showλD q=>eT q▸.nil|cons x u a=>intro D q;cases D with|nil=>show AX q|cons v D=>show .cons (E x v (aL q)) (a D (aR q))
def VP{V}(q:QY V v=true):VR f d h V v:=G6 q λi e q=>by(show Ac (j5 (A9 q)) λt a=>?_;clear q;obtain rfl:=a);show int_is e▸.int i t
def j4(F:Facts C)(I:Inv C f d s)(H):∀(V)(v),R4 C.K H V v=true->VR f d s.heap V v:=by induction H with|zero=>showλV v h=>VP h|succ H k=>showλV v h=>(GD.mp h).elim VP λh=>G6 h λo e h=>G6 h λa g h=>G6 h λl i h=>by show jg i λn m j=>?_;have c:=F.X _ _ j;have b:=I.base _ _ c;show tup_is e▸j6 g▸.tup ⟨_,b,rfl,n,rfl⟩ (j' I c) (j3 k _ _ (aR h)) (AQ (A9 (aL h)) (by decide)) ⟨_,b,rfl⟩
def Eg{a:Type}{l:List a}{p}(h:l.all p=true){x:a}(b:x∈l):p x=true:=DD.mp h x b
def mem_of_lookup{a d:Type}[BEq a][LawfulBEq a]{l:List _}{k:a}{v:d}(h:l.lookup k=some v):(k,v)∈l:=by induction l with|nil=>show AS h|cons e l b=>
  obtain⟨f,g⟩:=e;rw[List.lookup_cons]at h;split at h;·rename_i q;(have c:=AP h;clear h;clear b;subst c);cases eq_of_beq q;show AR
  ·show Ah _ (b h)
def ao{K}(d:0<p.classes.length)(c){a:Prop}(e:∀b,b<p.classes.length->Ej K p c=Ej K p b->a):a:=by
 by_cases h:c<p.classes.length;·show e c h rfl
 ·show e 0 d ?_;unfold Ej;show J (H8 (DP h)) ?_;show J (Cz d) ?_;rfl
def jr(F:Facts C)(p:Ez)(g:∀c,C.cls c=Ej C.K p c)(H:∀i,C.nm i=F7 p.vars i)(B:∀i,C.an i=F7 p.attrs i)(h:XT C.K p=true)(O:Uq C.K p ((p.Ek.map (·.1)).filter λw=>!p.spec.contains w)=true)(k:((p.Ek.map (·.1)).filter λw=>!p.spec.contains w).map (TC C.K p)=((p.Ek.map (·.1)).filter λw=>!p.spec.contains w).map λw=>Pf C.K (Du C.K p w))(h3:GG C->(∀a,p.GY a=true->∀c,findIn C.K (.ref (C.cls c)) (C.an a)=some none)->∀w F,p.spec.contains w=true->p.Ek.lookup w=some F->∀n,Fi C (Du C.K p) n (Ae p.OZ n)->∀A,E1 A (n+1)->∀u f V M,Ke (RJ p.OZ n) F u f=some (V,M)->∀d s D,Inv C f d s->AM f d s.heap u D->codeAny (model C.prog C.w) A (.call (.ref (Du C.K p w)) ⟨D,[]⟩) (GF C f d s.heap V M) s):Txt C (Du C.K p) p.OZ p.gt p.GY:=by
 have T:=aR h;have h:=aL h;have P:=aR h;have h:=aL h;have Y:=aR h;have h:=aL h;have K:=aR h;have h:=aL h;have j:=aR h;have h:=aL h;have r:=aR h;have h:=aL h;have b:∀c,Tf _ (C.cls c)=_/\p.PX.all (λa=>Ly (findIn _ (.ref (C.cls c)) _))=_:=λc=>by show ao (K:=C.K) (A9 (aR h)) c λAC l e=>?_;(rewrite[g];show J e ?_);have:=Eg (aR (aL h)) (Ju.mpr l);show⟨aL this,aR this⟩
 have t:GG C:=⟨λc=>VS (aL (aL (aL (aL (aL (b c).1))))),λc=>Qf (aR (aL (aL (aL (aL (b c).1))))),λc=>VS (aR (aL (aL (aL (b c).1)))),λc=>aR (aL (aL (b c).1)),λc=>aR (aL (b c).1),λc e=>by show Ac (CG.mp (aR (b c).1)) λo R=>?_;rw[F.X _ _ R]at e;show Ce e⟩;have AT:∀a,_->∀c,findIn _ _ (C.an a)=some _:=λa Q c=>by rw[B];show Qf (Eg (b c).2 (List.contains_iff_mem.mp Q))
 show⟨F,t,⟨λc m w e=>?_,λc m w e=>?_,λc m w e=>?_⟩,⟨λc w e=>?_,λc w e=>?_,λc w e=>?_,λc w e=>?_⟩,H,B,λw e=>?_,λc e=>?_,λi V e=>?_,λx S=>Qf (Eg T S),AT,λw Fn e=>?_⟩;·have:=Eg r (mem_of_lookup e);rw[g];show Lz (aR (aL (aL this)))
 ·show VU (aR (aL (Eg r (mem_of_lookup e))))
 ·show aR (Eg r (mem_of_lookup e))
 ·have:=Eg j (mem_of_lookup e);rw[g];show aR (aL (aL (aL this)))
 ·have:=Eg j (mem_of_lookup e);rw[g];show Lz (aR (aL (aL this)))
 ·show VU (aR (aL (Eg j (mem_of_lookup e))))
 ·have:=Eg j (mem_of_lookup e);rw[g];show aR this
 ·show G6 e λW E e=>?_;have q:=(GD.mp (Eg K (mem_of_lookup E))).resolve_left λq=>AX ((PF.mp e▸q:(none).isSome=_));show⟨(AE (λo:_=>nsIn _ _ ((o.map Prod.snd).getD Str.empty)) E).trans (Lz (aL q)),aR q⟩
 ·rw[g];show Lz ((λc l=>Eg Y (Ju.mpr l)) c (A9 e))
 ·show AJ (By.mp e) λW z X=>?_;clear e;obtain rfl:=X;show G6 (Eg P (mem_of_lookup z)) λo N h=>G6 h λv ev h=>⟨v,(AE (λo:_=>nsIn _ _ ((o.map Prod.snd).getD Str.empty)) z).trans (N.trans (AE _ ev)),λf d s I=>j4 F I 5 _ v h⟩
 ·cases L:p.spec.contains w with|true=>show .inr (h3 t AT w Fn L e)|false=>have G:w∈(p.Ek.map (·.1)).filter λw=>!p.spec.contains w:=C9.mpr ⟨Ar.mpr ⟨_,mem_of_lookup e,rfl⟩,J L rfl⟩;show G6 (Eg O G) λZ y h=>.inl (AP (y.symm.trans e)▸dJ H h ((AE (λo=>(o.map (Ph C.K p.gt p.GY (Du C.K p w))).getD []) y).symm.trans (List.map_inj_left.mp k w G)))
end
end
section
mutual
open A
variable{C:Cx}{Ch:Nat->Addr}{n:Nat}{B:Ee}{Db:Around}{f Do:St}{d:Mu}{s:Shared}
def jB(r:e i=some W)(j:A8 P (.Hu l i c) e f=some p){G:V->_->Prop}(k:∀m as T,f.objs m=some (.inst c as)->P.call l [.ref m] f=some (.none,T)->G (.ref m) (.next,e,T)):G W p:=oB j λv b j=>oB j λm em j=>oB j λo g j=>oB (oT j).2 λq h a=>by cases OG em▸r.symm.trans b;show AP (oT a).2▸k m _ _ ((oT j).1▸Lu g) (J h (Mine.AU (V7 (oT a).1) rfl))
def Y4(b:e i=some (.ref m))(j:A8 P (.assign (.attr (.var i) t) .none) e f=some p){G:_->Prop}(k:∀c as,f.objs m=some (.inst c as)->as.length<100->G (.next,e,f.set m (.inst c (Dp as t .none)))):G p:=oM j λx j=>by have j:((e i).map λv=>(v,f)).bind _=_:=j;replace j:=b▸j;show oB (show(E9 f m).bind _=_ from j) λo a j=>AP (oT j).2▸k _ _ (Lu a) (oT j).1
def jC{V:V}(j:Ke P ⟨[i],[.Hu I i c,.assign (.attr (.var i) t) .none],false⟩ w f=some (V,Do)){G:_->_->St->Prop}(k:∀m as T h g,f.objs m=some (.inst c as)->P.call I [.ref m] f=some (.none,T)->T.objs m=some (.inst h g)->g.length<100->G [.ref m] .none (T.set m (.inst h (Dp g t .none)))):G w V Do:=by show oB j λy x H=>?_;cases w with|nil=>show AS x|cons W r=>show AJ (By.mp x) λO L M=>?_;cases isEmpty_nil (oT L).1;have l:y i=some W:=M▸AG rfl;show AJ (By.mp H) λp E D=>oB E λo z q=>jB l z (G:=λW o=>o.1.c (Ao P [.assign (.attr (.var i) t) .none] o.2.1 o.2.2) _ _=_->_=some W->G [W] V Do) (λm as T a b q l=>oB (show(A8 P _ y T).bind _=_ from q) λe A u=>Y4 l A (G:=λe=>e.1.c (some (_,e.2.1,e.2.2)) (some (_,e.2.1,e.2.2)) (λv=>some (.ret v,e.2.1,e.2.2))=some p->_) (λh g h3 N u=>?_) u) q l;cases AP u;cases D;show k m as T h g a b h3 N
set_option maxRecDepth 4000 in
def i'(At:Facts C){y:PySem.Env}{a i c m k cl:Nat}{u:List _}{kd I}(AC:y.scope.kind=.function)(IN:e.arg=x)(TE:y.kindOf x=some .local)(FS:y.kindOf ("super":Str)=some .globalImplicit)(Fa:y.kindOf ("__class__":Str)=some .free)(Rs:y.func=some a)(Ok:y.cells.lookup ("__class__":Str)=some cl)(On:y.code=.ref k)(Sc:y.globals=mainGlobals)(JP:y.builtins=builtinsNs)(TW:C.K.lookup a=some am)(UV:am.data=.func g)(WP:(g.params.posonlyargs++g.params.args).head?=some e)(No:C.K.lookup cl=some ⟨ck,kd,.cell (some (.ref (C.cls c))),N⟩)(Op:C.K.lookup k=some ⟨p,I,.fields r,O⟩)(ZB:r[2]?=some (.str v tf))(Ps:((C.prog.main.file:Str)==v)=true)(ar:(C.prog.main.scope.names.lookup ("super":Str)).isSome=false)(Tk:(o.endLine==l.line)=true)(sub:mroIn C.K (C.cls c) (.ref (C.cls c))=some true)(ap:nsIn C.K cStatics "thirdparty.any"=some none)(NE:clsIn C.K (C.cls c)=some h)(Go:C.K.lookup (C.cls c)=some w)(Ev:w.data=.cls h)(X0:alongIn C.K "__init__" ((h.mro.dropWhile (·!=.ref (C.cls c))).drop 1)=some (some (.ref (Ch i))))(Uf:C.K.lookup (Ch i)=some z)(WF:z.cls=.type "function")(Re:fnIn C.K (Ch i)=true)(UF:nsIn C.K mainGlobals "super"=some none){P:Pg}(M2:Fi C Ch n P.call)(Gc:E1 Db n)(j:Inv C f d s)(EQ:f.objs m=some (.inst c as))(Fs:P.call i [.ref m] f=some (.none,T))(Tl:VR f d s.heap (.ref m) (.ref (d.loc m).a))(H1:s.heap.Ns y.locals λx=>u.lookup x)(W1:u.lookup x=some (.ref (d.loc m).a))(Wp:∀FM Y,Inv C T Y FM->Step BO f d s.heap T Y FM.heap->Q .next FM):PySem.wpAt (model C.prog C.w) Db (.func b y) (exec (.Expr (.Call (.Attribute (.Call (.Name "super" H) [] [] G) "__init__" o) [] [] l) M) y) Q E0 s:=by
 have X:=j.Em At;have B:=X _ _ Go;have F:=(j.objs m _ EQ).1;show ks_wpAt_Expr_any ?_ (by unfold interactive;show J AC ?_;rfl);show PySem.wpAt_bind (ks_wpAt_super_base FS Fa (by decide) Rs (X _ _ TW) UV WP On (X _ _ Op) rfl ZB Ps ar (ks_loadName_global AC FS ?_));unfold loadGlobal;show J Sc (J JP (AA ((looks_nsIn X UF).here (AJ At.blt λa2 Ix T0=>AA (wpAny_nsGet (Ix.keeps j.base) (J (T0 _ (by decide)) (J (show bootBuiltins _=some (_)by kernel_rfl) (AW ⟨rfl,wpAny_loadName_free AC Fa Ok ⟨_,X _ _ No,rfl⟩ (J IN (wpAny_loadName_local AC TE H1 W1 (ks_wpAny_isType_cls B Ev ⟨rfl,ks_wpAny_call_super B Ev F rfl (λc t=>by cases t) (looks_mroIn X sub) λL XV p=>PySem.wpAt_of_wpAny ?_⟩)))⟩))))))));have D:C.K.In L:=λb A t=>p b A (X b A t);show AA (EI (AA (Cs ?_)));show ks_wpAny_getMethod_super XV (looks_opaque D ap) (λDb Q E s al q=>AA ((looks_clsIn D NE) Db _ E s al (AW q))) rfl D X0 (D _ _ Uf) WF (λac=>?_) (by decide) ?_;·rw[ac,B]at F;(have EQ:=AP F;clear F;clear B;subst EQ);cases Ev
 show AA (wpAny_of_eq (by unfold methodCallPos;simp[Tk]:methodCallPos true (.Call (.Name "super" H) [] [] G) y o l=pure l) ?_);have K:∀R A,_->(L.push {cls:=.type "method",data:=.fields #[.ref (Ch i),.ref (d.loc m).a]}).get? R=_:=λR A t=>A7 _ (p R A t);have V:=j.keeps K (tk:=s.toks+1) (dr:=s.drawn);have W:(L.push {cls:=.type "method",data:=.fields #[.ref (Ch i),.ref (d.loc m).a]}).get? L.objs.size=_:=Heap.get?_push_at rfl rfl;show callWith_M0 ⟨W,V.Em At⟩ Re (wpAny_call (ks_codeAny_call_bound W (codeAny_mono (M2 _ Gc i _ _ _ _ Fs d _ _ V (.cons (Tl.keeps K) .nil)) λbd s3 S=>GF.el S λbe S=>B3 S λa1 Z Fk _=>Wp s3 a1 Z ((Step.keeps j.lt K).trans Fk))))
def jA(AC:Facts C)(JP:GG C){a At c i t k cl:Nat}{kd b}(Fk:C.K.lookup a=some ⟨L,b,.func g,y⟩)(ar:g.globals=mainGlobals)(UV:g.builtins=builtinsNs)(W1:g.closure.lookup ("__class__":Str)=some cl)(Ev:g.scope.kind=.function)(X0:g.scope.isCoroutine=false)(ap:g.scope.isGenerator=false)(ch:codeIn C.K g.code g.qualname=true)(XV:g.code=.ref k)(Uf:g.body=.stmts [.Expr (.Call (.Attribute (.Call (.Name "super" H) [] [] G) "__init__" o) [] [] l) M,.Assign [.Attribute (.Name (x) E) (C.an t) m] (.Constant .none u Q) T])(UF:RH g [x]=true)(be:g.scope.names.all (λx=>!decide (x.2=.cell))=true)(FM:g.scope.names.lookup (x)=some .local)(ac:(x==("__debug__"))=false)(a1:g.scope.names.lookup ("super":Str)=some .globalImplicit)(a2:g.scope.names.lookup ("__class__":Str)=some .free)(ce:(g.params.posonlyargs++g.params.args).head?=some e)(Tl:e.arg=x)(Wp:C.K.lookup cl=some ⟨ck,kd,.cell (some (.ref (C.cls c))),N⟩)(ZB:C.K.lookup k=some ⟨p,I,.fields r,O⟩)(dL:r[2]?=some (.str v tf))(al:((C.prog.main.file)==v)=true)(f1:(C.prog.main.scope.names.lookup ("super":Str)).isSome=false)(bd:(o.endLine==l.line)=true)(sub:mroIn C.K (C.cls c) (.ref (C.cls c))=some true)(f0:nsIn C.K cStatics "thirdparty.any"=some none)(WP:clsIn C.K (C.cls c)=some h)(TW:C.K.lookup (C.cls c)=some w)(Tk:w.data=.cls h)(ci:alongIn C.K "__init__" ((h.mro.dropWhile (·!=.ref (C.cls c))).drop 1)=some (some (.ref (Ch At))))(cc:C.K.lookup (Ch At)=some z)(cd:z.cls=.type "function")(am:fnIn C.K (Ch At)=true)(bv:nsIn C.K mainGlobals "super"=some none)(db:C.an t=A)(T0:∀c,findIn C.K (.ref (C.cls c)) (C.an t)=some none)(WF:Fi C Ch n P.call)(Fa:E1 Db (n+1)){V:V}(j:Ke P ⟨[i],[.Hu At i c,.assign (.attr (.var i) t) .none],false⟩ EQ f=some (V,Do))(Y:Inv C f d s)(q:AM f d s.heap EQ D):codeAny (model C.prog C.w) Db (.call (.ref a) ⟨D,[]⟩) (GF C f d s.heap V Do) s:=by
 show jC j (G:=λEQ V Do=>AM f d _ EQ D->codeAny _ Db _ (GF C f d _ V Do) s) (λF f4 Ix Op f8 FS Ps Re Rs q=>(q.c (G:=λD=>codeAny _ Db (.call _ ⟨D,[]⟩) _ s) λii B H1 ds=>?_)) q;cases ds.n;cases H1.is.1;show ks_codeAny_call_defAt (binds:=[_]) (Ai (Mw (A2 _ _)) Fa.depth) (Y.Em AC _ _ Fk) rfl (AC.V6.keeps Y.base) (codeRec_of (Y.Em AC) ch) Uf (BindsTo.of_eq (WM UF rfl)) (λx X=>gJ (Eg be X)) (λx X=>As.mp X▸FM) (λgd Fs W=>?_) X0 ap Ev;have M2:=Y.keeps W (tk:=s.toks+1) (dr:=s.drawn);have Gc:[(x,Value.ref (d.loc F).a)].lookup (x)=some (.ref (d.loc F).a):=by simp
 show ks_wpAt_execs_cons (PySem.wpAt_mono (i' (y:=callEnv g s.heap.objs.size a) AC Ev Tl FM a1 a2 rfl W1 XV ar UV Fk rfl ce Wp ZB dL al f1 bd sub f0 WP TW Tk ci cc cd am bv WF (Fa.deeper _).room M2 FS Ps (H1.keeps W) Fs Gc (Q:=λB IN=>B=_/\∃R,Inv C Ix R IN/\Step BO f d _ Ix R _) λIN R a On=>⟨rfl,R,a,On⟩) (λB s3 K=>(K.1▸AJ K.2 λf2 NE S=>ks_wpAt_execs_cons (ks_wpAt_Assign_Attr (PySem.wpAt_of_wpAny (Md (wpAny_Name (wpAny_loadName_local Ev FM (HH Fs λGo TE Sc ca B=>⟨Go,TE,Sc,S.kept _ Go id ca (Y.Eh (BV _)),B⟩) Gc ?_) ac))) rfl))) λ_ _ K=>K.elim);show J (S.mu F (Y.lt F (FS▸rfl:_=_))).1.symm (J db.symm (BW (Wo AC JP NE Re Rs .none (T0 Op) (λh4 No Ok=>PySem.wpAt_of_wpAny (AW ⟨f2,No,((Step.keeps Y.lt W).trans S).trans Ok,.none⟩))) (λZ Z q=>q) λZ Z q=>q.elim))
end
end
mutual
open A
noncomputable def Bg:St:=⟨λa=>none,0⟩
noncomputable def Bn:Mu:=⟨λa=>⟨0,0,0⟩,λa=>False⟩
def bF(c:Program)(w:World)(K:Frag)(p:Ez)(s:Shared)(b:namesOk p.vars=true)(a:namesOk p.attrs=true):Cx:=⟨c,w,K,s.heap,s.os,Ej K p,F7 p.vars,F7 p.attrs,V0 b,V0 a⟩
def noObj(h:Bg.has n):False:=AX h
def eK(h:C.h0=s.heap)(d:C.RF=s.os)(c:s.gens=#[]):Inv C Bg Bn s where base:=λa o e=>h▸e;objs:=λn o e=>AS e;live:=λn b=>(noObj b).elim;apart:=λn m f b f=>(noObj b).elim;fresh:=λn b=>(noObj b).elim;lt:=λn b=>(noObj b).elim;Dj:=λn b=>(noObj b).elim;Dw:=λa q=>q.elim;Dv:=λa q=>q.elim;gens:=c;os:=d.symm
def kA(q:IntsAre D p):AM Bg Bn h (p.map .int) D:=by induction q with|nil=>show .nil|cons i t q a=>show .cons (.int i t) a
def Plain(B:Ee)(w:Nat):Prop:=∀a:List Int,a.length<=63->∃n≤200,∃b,Ae B n w [.lst (a.map .int)] Bg=some (.bool true,b)
def ek{C:Cx}(X:Txt C k B G y){s}(h:C.h0=s.heap)(j:C.RF=s.os)(l:s.gens=#[])(M:Plain B w)(m:s.heap.IsList a D.toArray)(t:IntsAre D p)(c:¬(63:Int)<p.length)(r:∀d,(∀b o,s.heap.get? b=some o->d.heap.get? b=some o)->d.os=s.os->d.gens=#[]->Q (.bool true) d):wpAny (model C.prog C.w) callerA (PySem.call (.ref (k w)) [.ref a]) Q T s:=by have c:_<=63:=cn (Aa (inl c) (by simp+arith));obtain⟨n,f,E,e⟩:=M p c;have q:AM Bg Bn _ _ _:=.cons (.lst m ⟨λn c=>(noObj c).elim,id⟩ (kA t) (by simp[lim];show AQ c (Ay _ _))) .nil;show BW (TV (aS X n) ⟨rfl,by show(?_:301+_+20<1000);show lf f (lf f (lf f (by simp+arith))),Ai (Jx (EJ (Nat.mul_le_mul_left 40 f) 4) _) (by decide),⟨_,rfl⟩⟩ e (eK h j l) q λv d z=>?_) (λi i q=>q) λi i q=>q.elim;show B3 z λA g x u=>?_;(try clear z);obtain rfl:=u.is;show r d (λb o e=>g.base b o (h▸e)) (g.os.trans j) g.gens
def dj(l:∀f,c.raises a f=false)(k:c.post a (.bool true) a=true)(h:∀b o,e.heap.get? b=some o->d.heap.get? b=some o)(j:d.os=e.os)(g:d.gens=#[]):GoodWG c cl n a e (.ok (.ret (.bool true))) d:=GoodW.toG ⟨.inl ⟨_,_,[],rfl,l,ReadsW.bool _,k,λm=>⟨G1,λm i=>by cases i⟩⟩,h,j,g⟩
end
end
end Mine
end
section
open PySem
namespace Mine
abbrev AK:=Str.ofString
set_option maxRecDepth 10000
mutual
open A
noncomputable def Se:Fn:=⟨[7],[.assign (.pt (.nm 6)) (.int 0),.for (.nm 17) (.val (.var 7)) [.assign (.pt (.tup [.nm 6,.nm 66])) (.tup [.bi .abs [.var 17],.var 6]),.while (.cmp .gt (.var 66) (.int 0)) [.assign (.pt (.tup [.nm 6,.nm 66])) (.tup [.var 66,.bin .mod (.var 6) (.var 66)])]],.ret (.var 6)],true⟩
noncomputable def YA:Fn:=⟨[16],[.ret (.ite (.bi .isBool [.var 16]) (.not (.var 16)) (.tup [.str "bit",.idx (.var 16) (.int 1),.not (.idx (.var 16) (.int 2))]))],false⟩
noncomputable def Sf:Fn:=⟨[7],[.assign (.pt (.nm 6)) (.Dm []),.for (.nm 8) (.val (.bi .sorted [.var 7])) [.expr (.call 14 [.var 6,.var 8,.var 8])],.ret (.bi .tuple [.var 6])],true⟩
noncomputable def YB:Fn:=⟨[9],[.ret (.idx (.idx (.var 9) (.neg (.int 1))) (.int 1))],false⟩
noncomputable def YC:Fn:=⟨[10],[.ret (.and [.bi .Qi [.var 10],.cmp .eq (.bi .len [.var 10]) (.int 2),.bi .isList [.idx (.var 10) (.int 1)]])],false⟩
noncomputable def YD:Fn:=⟨[10],[.ite (.call 6 [.var 10]) [.ret (.cmp .eq (.comp (.var 12) [.mk (.nm 12) (.val (.idx (.var 10) (.int 1))) [.not (.call 7 [.var 12])]] [12,115]) (.lst []))] [],.ret (.and [.not (.call 8 [.var 10,.str "sum"]),.not (.call 8 [.var 10,.str "bit"])])],false⟩
noncomputable def YE:Fn:=⟨[10,11],[.ret (.and [.bi .Qi [.var 10],.cmp .eq (.bi .len [.var 10]) (.int 3),.cmp .eq (.idx (.var 10) (.int 0)) (.var 11)])],false⟩
noncomputable def YF:Fn:=⟨[10],[.ret (.or [.bi .isBool [.var 10],.call 8 [.var 10,.str "bit"]])],false⟩
noncomputable def YN:Fn:=⟨[9],[.ret (.idx (.idx (.var 9) (.int 0)) (.int 0))],false⟩
noncomputable def Sh:Fn:=⟨[12,13,14],[.assign (.pt (.tup [.nm 12,.nm 13])) (.tup [.call 19 [.var 12],.call 19 [.var 13]]),.assign (.pt (.nm 15)) (.bi .dict [.idx (.var 12) (.int 1)]),.for (.tup [.nm 22,.nm 17]) (.val (.idx (.var 13) (.int 1))) [.assign (.sub (.var 15) (.var 22)) (.bin .add (.bm (.var 15) .get [.var 22,.int 0]) (.bin .mul (.var 14) (.var 17)))],.assign (.pt (.tup [.nm 6,.nm 47])) (.tup [.bi .tuple [.comp (.tup [.var 22,.idx (.var 15) (.var 22)]) [.mk (.nm 22) (.val (.bi .sorted [.var 15])) [.cmp .ne (.idx (.var 15) (.var 22)) (.int 0)]] [22,115]],.bin .add (.idx (.var 12) (.int 2)) (.bin .mul (.var 14) (.idx (.var 13) (.int 2)))]),.ret (.ite (.cmp .ne (.var 6) (.tup [])) (.tup [.str "sum",.var 6,.var 47]) (.var 47))],true⟩
noncomputable def YO:Fn:=⟨[6,4,5],[.ite (.and [.cmp .gt (.bi .len [.var 6]) (.int 0),.cmp .le (.var 4) (.bin .add (.idx (.idx (.var 6) (.neg (.int 1))) (.int 1)) (.int 1))]) [.ite (.cmp .gt (.var 5) (.idx (.idx (.var 6) (.neg (.int 1))) (.int 1))) [.assign (.sub (.var 6) (.neg (.int 1))) (.tup [.idx (.idx (.var 6) (.neg (.int 1))) (.int 0),.var 5])] []] [.expr (.bm (.var 6) .append [.tup [.var 4,.var 5]])]],false⟩
noncomputable def YP:Fn:=⟨[4,5],[.ret (.ite (.cmp .le (.var 4) (.var 5)) (.tup [.tup [.var 4,.var 5]]) (.tup []))],false⟩
noncomputable def YQ:Fn:=⟨[10],[.ite (.call 8 [.var 10,.str "sum"]) [.ret (.var 10)] [],.ite (.not (.call 8 [.var 10,.str "bit"])) [.ret (.tup [.str "sum",.tup [],.bi .int [.var 10]])] [],.ret (.ite (.idx (.var 10) (.int 2)) (.tup [.str "sum",.tup [.tup [.idx (.var 10) (.int 1),.int 1]],.int 0]) (.tup [.str "sum",.tup [.tup [.idx (.var 10) (.int 1),.neg (.int 1)]],.int 1]))],false⟩
noncomputable def Xq:Fn:=⟨[42],[.assign (.attr (.var 42) 3) (.Dm []),.assign (.attr (.var 42) 4) (.Dm []),.assign (.attr (.var 42) 5) (.tup [.str "satisfy",.none]),.assign (.attr (.var 42) 6) (.tup [])],false⟩
noncomputable def Xp:Fn:=⟨[42,22],[.ret (.idx (.idx (.attr (.var 42) 3) (.var 22)) (.int 1))],false⟩
noncomputable def Xr:Fn:=⟨[42,45,46],[.expr (.bm (.attr (.var 42) 3) .append [.tup [.var 45,.var 46]]),.ret (.bin .sub (.bi .len [.attr (.var 42) 3]) (.int 1))],false⟩
noncomputable def Xs:Fn:=⟨[42,33],[.expr (.bm (.attr (.var 42) 4) .append [.var 33])],false⟩
noncomputable def Xt:Fn:=⟨[42],[.ret (.bi .len [.attr (.var 42) 3])],false⟩
noncomputable def Xx:Fn:=⟨[42],[.Hu 45 42 2,.assign (.attr (.var 42) 0) .none],false⟩
noncomputable def Xu:Fn:=⟨[42,55,20],[.ite (.cmp .eq (.comp (.var 12) [.mk (.nm 12) (.val (.var 20)) [.not (.call 7 [.var 12])]] [12,115]) (.lst [])) [.assign (.pt (.nm 7)) (.bi .tuple [.comp (.bi .int [.var 12]) [.mk (.nm 12) (.val (.var 20)) []] [12,115]]),.assign (.pt (.nm 6)) (.Af (.var 42) 18 [.tup [.str "element_of",.var 55,.var 7],.call 3 [.var 7]])] [.assign (.pt (.nm 53)) (.comp (.Af (.var 42) 5 [.var 12]) [.mk (.nm 12) (.val (.var 20)) []] [12,115]),.assign (.pt (.nm 46)) (.call 16 [.bi .min [.comp (.var 4) [.mk (.tup [.nm 4,.nm 5]) (.val (.var 53)) []] [4,5,115]],.bi .max [.comp (.var 5) [.mk (.tup [.nm 4,.nm 5]) (.val (.var 53)) []] [4,5,115]]]),.assign (.pt (.nm 6)) (.Af (.var 42) 18 [.tup [.str "element",.var 55,.Af (.var 42) 7 [.var 20]],.var 46])],.ret (.ite (.cmp .eq (.comp (.var 12) [.mk (.nm 12) (.val (.var 20)) [.not (.call 9 [.var 12])]] [12,115]) (.lst [])) (.tup [.str "bit",.idx (.idx (.idx (.var 6) (.int 1)) (.int 0)) (.int 0),.bool true]) (.var 6))],true⟩
noncomputable def Xv:Fn:=⟨[42,54,12,13],[.ite (.cmp .isin (.var 54) (.tup [.str "=",.str "!="])) [.ret (.ite (.cmp .eq (.var 54) (.str "=")) (.Af (.var 42) 29 [.var 12,.var 13]) (.call 1 [.Af (.var 42) 29 [.var 12,.var 13]]))] [],.ite (.cmp .isin (.var 54) (.tup [.str ">",.str ">="])) [.fail] [],.ret (.Af (.var 42) 10 [.str "linear_le",.call 12 [.call 12 [.var 12,.var 13,.neg (.int 1)],.ite (.cmp .eq (.var 54) (.str "<")) (.int 1) (.int 0),.int 1]])],true⟩
noncomputable def FL:Fn:=⟨[42,10,27,44],[.assign (.pt (.tup [.nm 32,.nm 56])) (.tup [.int 0,.Dm []]),.ite (.cmp .ne (.bi .len [.var 27]) (.bi .len [.idx (.var 10) (.int 0)])) [.fail] [],.for (.tup [.tup [.nm 4,.nm 5],.nm 55]) (.zip (.idx (.var 10) (.int 0)) (.var 27)) [.assign (.pt (.nm 32)) (.call 12 [.call 12 [.var 55,.var 4,.neg (.int 1)],.var 32,.bin .add (.bin .sub (.var 5) (.var 4)) (.int 1)]),.expr (.bm (.var 56) .extend [.lst [.call 12 [.var 4,.var 55,.neg (.int 1)],.call 12 [.var 55,.var 5,.neg (.int 1)]]])],.ite (.or [.cmp .eq (.idx (.var 10) (.int 1)) (.lst []),.cmp .isin (.bool false) (.comp (.Af (.var 42) 9 [.str "linear_le",.var 12]) [.mk (.nm 12) (.val (.var 56)) []] [12,115])]) [.expr (.Af (.var 42) 17 [.bool false]),.ret (.ite (.cmp .ne (.idx (.var 10) (.int 1)) (.lst [])) (.idx (.idx (.var 10) (.int 1)) (.int 0)) (.int 0))] [],.assign (.pt (.nm 16)) (.Af (.var 42) 26 [.var 56]),.ite (.bi .isInt [.var 32]) [.expr (.Af (.var 42) 17 [.chain (.int 0) .le (.var 32) .lt (.bi .len [.idx (.var 10) (.int 1)])]),.ret (.idx (.idx (.var 10) (.int 1)) (.ite (.chain (.int 0) .le (.var 32) .lt (.bi .len [.idx (.var 10) (.int 1)])) (.var 32) (.int 0)))] [],.assign (.pt (.nm 55)) (.Af (.var 42) 6 [.call 12 [.var 32,.int 1,.int 1]]),.ite (.cmp .ne (.var 16) (.bool true)) [.assign (.pt (.nm 55)) (.Af (.var 42) 22 [.var 55,.var 16,.call 16 [.int 1,.bi .len [.idx (.var 10) (.int 1)]]])] [],.ret (.Af (.var 42) 27 [.var 55,.idx (.var 10) (.int 1)])],true⟩
noncomputable def Xw:Fn:=⟨[42,12,13],[.ite (.and [.call 9 [.var 12],.call 9 [.var 13]]) [.ret (.call 1 [.Af (.var 42) 14 [.var 12,.var 13]])] [],.ret (.Af (.var 42) 10 [.str "linear_eq",.call 12 [.var 12,.var 13,.neg (.int 1)]])],true⟩
noncomputable def Xy:Fn:=⟨[42,48,46],[.assign (.pt (.tup [.nm 74,.nm 49])) (.Af (.var 42) 4 [.var 48,.var 46]),.ite (.var 49) [.expr (.Af (.attr (.var 42) 7) 1 [.bin .add (.var 48) (.tup [.var 74])])] [],.ret (.tup [.str "sum",.tup [.tup [.var 74,.int 1]],.int 0])],true⟩
noncomputable def Xz:Fn:=⟨[42,16],[.ite (.isNone (.attr (.var 42) 0)) [.expr (.Af (.var 42) 15 [.lst [.var 16]])] [.ite (.cmp .ne (.var 16) (.bool true)) [.expr (.bm (.attr (.var 42) 0) .append [.var 16])] []]],true⟩
noncomputable def X1:Fn:=⟨[42,23,16,46],[.assign (.pt (.tup [.nm 74,.nm 49])) (.Af (.var 42) 4 [.tup [.str "stand",.var 23,.var 16,.var 46],.var 46]),.ite (.var 49) [.expr (.Af (.attr (.var 42) 7) 1 [.tup [.str "imp",.Af (.var 42) 6 [.var 16],.tup [.str "linear_eq",.tup [.int 1,.neg (.int 1)],.tup [.var 74,.var 23],.int 0]]]),.expr (.Af (.attr (.var 42) 7) 1 [.tup [.str "imp",.Af (.var 42) 6 [.call 1 [.var 16]],.tup [.str "linear_eq",.tup [.int 1],.tup [.var 74],.call 10 [.var 46]]]])] [],.ret (.var 74)],true⟩
noncomputable def X2:Fn:=⟨[42,12,13],[.assign (.pt (.tup [.nm 12,.nm 13])) (.tup [.call 19 [.var 12],.call 19 [.var 13]]),.ite (.cmp .eq (.idx (.var 12) (.int 1)) (.tup [])) [.ret (.call 12 [.int 0,.var 13,.idx (.var 12) (.int 2)])] [],.ite (.cmp .eq (.idx (.var 13) (.int 1)) (.tup [])) [.ret (.call 12 [.int 0,.var 12,.idx (.var 13) (.int 2)])] [],.assign (.pt (.tup [.nm 22,.nm 23])) (.bi .sorted [.Af (.var 42) 7 [.tup [.var 12,.var 13]]]),.assign (.pt (.nm 53)) (.comp (.bin .mul (.var 75) (.var 76)) [.mk (.nm 75) (.val (.Af (.var 42) 5 [.var 12])) [],.mk (.nm 76) (.val (.Af (.var 42) 5 [.var 13])) []] [75,76,115]),.ret (.Af (.var 42) 18 [.tup [.str "times",.var 22,.var 23],.call 16 [.bi .min [.var 53],.bi .max [.var 53]]])],true⟩
noncomputable def X3:Fn:=⟨[42,56],[.ite (.isNone (.attr (.var 42) 0)) [.for (.nm 12) (.val (.var 56)) [.expr (.Af (.var 42) 16 [.str "linear_le",.var 12])],.ret (.bool true)] [],.assign (.pt (.nm 16)) (.Af (.var 42) 12 [.comp (.Af (.var 42) 10 [.str "linear_le",.var 12]) [.mk (.nm 12) (.val (.var 56)) []] [12,115]]),.expr (.Af (.var 42) 17 [.var 16]),.ret (.var 16)],true⟩
noncomputable def X4:Fn:=⟨[42],[.assign (.attr (.var 42) 7) (.new 0),.assign (.attr (.var 42) 8) .MA],false⟩
noncomputable def K5:Fn:=⟨[42,51],[.assign (.pt (.nm 52)) (.Dm []),.for (.nm 16) (.val (.var 51)) [.ite (.or [.cmp .eq (.var 16) (.bool false),.cmp .isin (.call 1 [.var 16]) (.var 52)]) [.ret (.bool false)] [],.ite (.and [.cmp .ne (.var 16) (.bool true),.cmp .FE (.var 16) (.var 52)]) [.expr (.bm (.var 52) .append [.var 16])] []],.ite (.cmp .lt (.bi .len [.var 52]) (.int 2)) [.ret (.ite (.cmp .ne (.var 52) (.lst [])) (.idx (.var 52) (.int 0)) (.bool true))] [],.expr (.bm (.var 52) .sort []),.assign (.pt (.tup [.nm 20,.nm 71])) (.tup [.bi .tuple [.comp (.idx (.var 16) (.int 1)) [.mk (.nm 16) (.val (.var 52)) []] [16,115]],.comp (.idx (.var 16) (.int 2)) [.mk (.nm 16) (.val (.var 52)) []] [16,115]]),.ite (.cmp .FE (.bool true) (.var 71)) [.assign (.pt (.tup [.nm 30,.nm 49])) (.Af (.var 42) 4 [.tup [.str "or",.var 20],.glob 0]),.ite (.var 49) [.expr (.Af (.attr (.var 42) 7) 1 [.tup [.str "or",.var 20,.var 30]])] [],.ret (.tup [.str "bit",.var 30,.bool false])] [],.assign (.pt (.tup [.nm 30,.nm 49])) (.Af (.var 42) 4 [.tup [.str "all",.bi .tuple [.var 52]],.glob 0]),.ite (.and [.var 49,.cmp .FE (.bool false) (.var 71)]) [.expr (.Af (.attr (.var 42) 7) 1 [.tup [.str "and",.var 20,.var 30]])] [.ite (.var 49) [.for (.nm 16) (.val (.var 52)) [.expr (.Af (.var 42) 15 [.lst [.tup [.str "bit",.var 30,.bool false],.var 16]])],.expr (.Af (.var 42) 15 [.bin .add (.lst [.tup [.str "bit",.var 30,.bool true]]) (.comp (.call 1 [.var 16]) [.mk (.nm 16) (.val (.var 52)) []] [16,115])])] []],.ret (.tup [.str "bit",.var 30,.bool true])],true⟩
noncomputable def Sb:Fn:=⟨[42,10],[.assign (.pt (.nm 35)) (.call 19 [.var 10]),.assign (.pt (.tup [.nm 4,.nm 5])) (.tup [.idx (.var 35) (.int 2),.idx (.var 35) (.int 2)]),.for (.tup [.nm 22,.nm 17]) (.val (.idx (.var 35) (.int 1))) [.assign (.pt (.nm 53)) (.tup [.bin .mul (.var 17) (.call 10 [.Af (.attr (.var 42) 7) 3 [.var 22]]),.bin .mul (.var 17) (.call 4 [.Af (.attr (.var 42) 7) 3 [.var 22]])]),.assign (.pt (.tup [.nm 4,.nm 5])) (.tup [.bin .add (.var 4) (.bi .min [.var 53]),.bin .add (.var 5) (.bi .max [.var 53])])],.ret (.tup [.var 4,.var 5])],true⟩
noncomputable def X5:Fn:=⟨[42,48,46],[.assign (.pt (.nm 49)) (.cmp .FE (.var 48) (.attr (.var 42) 8)),.ite (.var 49) [.assign (.sub (.attr (.var 42) 8) (.var 48)) (.Af (.attr (.var 42) 7) 0 [.KN "#" (.Af (.attr (.var 42) 7) 2 []),.var 46])] [],.ret (.tup [.idx (.attr (.var 42) 8) (.var 48),.var 49])],true⟩
noncomputable def X6:Fn:=⟨[42,11,10],[.assign (.pt (.nm 33)) (.Af (.var 42) 9 [.var 11,.var 10]),.ite (.cmp .eq (.var 33) (.bool false)) [.expr (.Af (.attr (.var 42) 7) 1 [.tup [.str "clause",.tup [],.tup []]])] [.ite (.cmp .ne (.var 33) (.bool true)) [.expr (.Af (.attr (.var 42) 7) 1 [.var 33])] []]],true⟩
noncomputable def X7:Fn:=⟨[42,51],[.ite (.or [.cmp .isin (.bool true) (.var 51),.cmp .ne (.comp (.var 16) [.mk (.nm 16) (.val (.var 51)) [.and [.cmp .ne (.var 16) (.bool false),.cmp .isin (.call 1 [.var 16]) (.var 51)]]] [16,115]) (.lst [])]) [.OI] [],.assign (.pt (.nm 31)) (.bi .sorted [.comp (.var 16) [.mk (.nm 16) (.val (.var 51)) [.cmp .ne (.var 16) (.bool false)]] [16,115]]),.assign (.pt (.tup [.nm 72,.nm 73])) (.tup [.comp (.idx (.var 16) (.int 1)) [.mk (.nm 16) (.val (.var 31)) [.idx (.var 16) (.int 2)]] [16,115],.comp (.idx (.var 16) (.int 1)) [.mk (.nm 16) (.val (.var 31)) [.not (.idx (.var 16) (.int 2))]] [16,115]]),.expr (.Af (.attr (.var 42) 7) 1 [.tup [.str "clause",.bi .tuple [.bi .JW [.var 72]],.bi .tuple [.bi .JW [.var 73]]]])],true⟩
noncomputable def K6:Fn:=⟨[42,11,10],[.assign (.pt (.tup [.tup [.nm 4,.nm 5],.nm 35])) (.tup [.Af (.var 42) 5 [.var 10],.call 19 [.var 10]]),.ite (.cmp .eq (.var 11) (.str "linear_le")) [.ite (.or [.cmp .le (.var 5) (.int 0),.cmp .gt (.var 4) (.int 0)]) [.ret (.cmp .le (.var 5) (.int 0))] []] [.ite (.or [.cmp .gt (.var 4) (.int 0),.cmp .lt (.var 5) (.int 0)]) [.ret (.cmp .eq (.var 11) (.str "linear_ne"))] [.ite (.cmp .eq (.var 4) (.var 5)) [.ret (.cmp .eq (.var 11) (.str "linear_eq"))] []]],.assign (.pt (.tup [.nm 68,.nm 69])) (.tup [.call 0 [.comp (.var 17) [.mk (.tup [.nm 22,.nm 17]) (.val (.idx (.var 35) (.int 1))) []] [22,17,115]],.neg (.idx (.var 35) (.int 2))]),.ite (.and [.cmp .ne (.var 11) (.str "linear_le"),.cmp .ne (.bin .mod (.var 69) (.var 68)) (.int 0)]) [.ret (.cmp .eq (.var 11) (.str "linear_ne"))] [],.ret (.tup [.var 11,.bi .tuple [.comp (.bin .fdiv (.var 17) (.var 68)) [.mk (.tup [.nm 22,.nm 17]) (.val (.idx (.var 35) (.int 1))) []] [22,17,115]],.bi .tuple [.comp (.var 22) [.mk (.tup [.nm 22,.nm 17]) (.val (.idx (.var 35) (.int 1))) []] [22,17,115]],.bin .fdiv (.var 69) (.var 68)])],true⟩
noncomputable def K7:Fn:=⟨[42,11,10],[.assign (.pt (.nm 33)) (.Af (.var 42) 9 [.var 11,.var 10]),.ite (.bi .isBool [.var 33]) [.ret (.var 33)] [],.assign (.pt (.tup [.nm 11,.nm 70,.nm 20,.nm 69])) (.var 33),.ite (.cmp .eq (.var 11) (.str "linear_ne")) [.ret (.call 1 [.Af (.var 42) 10 [.str "linear_eq",.var 10]])] [],.assign (.pt (.nm 50)) (.bi .tuple [.comp (.neg (.var 17)) [.mk (.nm 17) (.val (.var 70)) []] [17,115]]),.ite (.and [.cmp .lt (.idx (.var 70) (.int 0)) (.int 0),.cmp .eq (.var 11) (.str "linear_le")]) [.ret (.call 1 [.Af (.var 42) 11 [.tup [.var 11,.var 50,.var 20,.bin .sub (.neg (.var 69)) (.int 1)]]])] [],.ret (.Af (.var 42) 11 [.ite (.cmp .gt (.idx (.var 70) (.int 0)) (.int 0)) (.var 33) (.tup [.var 11,.var 50,.var 20,.neg (.var 69)])])],true⟩
noncomputable def Sd:Fn:=⟨[42,33],[.assign (.pt (.tup [.nm 11,.nm 70,.nm 20,.nm 69])) (.var 33),.ite (.and [.cmp .eq (.var 70) (.tup [.int 1]),.cmp .eq (.Af (.attr (.var 42) 7) 3 [.idx (.var 20) (.int 0)]) (.glob 0)]) [.ret (.tup [.str "bit",.idx (.var 20) (.int 0),.and [.cmp .eq (.var 11) (.str "linear_eq"),.cmp .eq (.var 69) (.int 1)]])] [],.assign (.pt (.tup [.nm 30,.nm 49])) (.Af (.var 42) 4 [.tup [.str "reif",.var 33],.glob 0]),.ite (.var 49) [.expr (.Af (.attr (.var 42) 7) 1 [.tup [.str "reif",.var 30,.var 33]])] [],.ret (.tup [.str "bit",.var 30,.bool true])],true⟩
noncomputable def X8:Fn:=⟨[42,12,13],[.ite (.bi .isBool [.var 12]) [.ret (.ite (.var 12) (.call 1 [.var 13]) (.var 13))] [],.ite (.bi .isBool [.var 13]) [.ret (.ite (.var 13) (.call 1 [.var 12]) (.var 12))] [],.ite (.cmp .eq (.idx (.var 12) (.int 1)) (.idx (.var 13) (.int 1))) [.ret (.cmp .ne (.idx (.var 12) (.int 2)) (.idx (.var 13) (.int 2)))] [],.assign (.pt (.tup [.nm 4,.nm 5])) (.tup [.bi .min [.idx (.var 12) (.int 1),.idx (.var 13) (.int 1)],.bi .max [.idx (.var 12) (.int 1),.idx (.var 13) (.int 1)]]),.assign (.pt (.tup [.nm 69,.nm 49])) (.Af (.var 42) 4 [.tup [.str "xor",.var 4,.var 5],.glob 0]),.ite (.var 49) [.expr (.Af (.attr (.var 42) 7) 1 [.tup [.str "xor",.var 4,.var 5,.var 69]])] [],.ret (.tup [.str "bit",.var 69,.cmp .eq (.idx (.var 12) (.int 2)) (.idx (.var 13) (.int 2))])],true⟩
noncomputable def X9:Fn:=⟨[42,10],[.assign (.pt (.nm 35)) (.call 19 [.var 10]),.ite (.and [.cmp .eq (.bi .len [.idx (.var 35) (.int 1)]) (.int 1),.cmp .eq (.idx (.idx (.idx (.var 35) (.int 1)) (.int 0)) (.int 1)) (.int 1),.cmp .eq (.idx (.var 35) (.int 2)) (.int 0)]) [.ret (.idx (.idx (.idx (.var 35) (.int 1)) (.int 0)) (.int 0))] [],.assign (.pt (.tup [.nm 4,.nm 5])) (.Af (.var 42) 5 [.var 35]),.assign (.pt (.tup [.nm 22,.nm 49])) (.Af (.var 42) 4 [.var 35,.call 16 [.var 4,.var 5]]),.ite (.and [.var 49,.cmp .ne (.idx (.var 35) (.int 1)) (.tup [])]) [.assign (.pt (.tup [.nm 70,.nm 20])) (.tup [.bin .add (.comp (.var 17) [.mk (.tup [.nm 23,.nm 17]) (.val (.idx (.var 35) (.int 1))) []] [23,17,115]) (.lst [.neg (.int 1)]),.bin .add (.comp (.var 23) [.mk (.tup [.nm 23,.nm 17]) (.val (.idx (.var 35) (.int 1))) []] [23,17,115]) (.lst [.var 22])]),.expr (.Af (.attr (.var 42) 7) 1 [.tup [.str "linear_eq",.bi .tuple [.var 70],.bi .tuple [.var 20],.neg (.idx (.var 35) (.int 2))]])] [],.ret (.var 22)],true⟩
noncomputable def X':Fn:=⟨[42,20],[.ret (.bi .tuple [.comp (.Af (.var 42) 6 [.var 12]) [.mk (.nm 12) (.val (.var 20)) []] [12,115]])],true⟩
noncomputable def YH:Fn:=⟨[18,19],[.assign (.pt (.tup [.nm 59,.nm 44])) (.tup [.idx (.var 18) (.str "cells"),.idx (.var 18) (.str "spot")]),.assign (.sub (.var 18) (.str "spot")) (.bin .add (.var 44) (.int 1)),.ret (.bin .mod (.bin .add (.idx (.var 59) (.bin .mod (.var 44) (.bi .len [.var 59]))) (.bin .mul (.bin .fdiv (.var 44) (.bi .len [.var 59])) (.bin .add (.bin .mul (.int 2) (.var 44)) (.int 1)))) (.var 19))],false⟩
noncomputable def YG:Fn:=⟨[18,20],[.ret (.idx (.var 20) (.call 100 [.var 18,.bi .len [.var 20]]))],false⟩
noncomputable def YI:Fn:=⟨[21,22,23],[.ret (.call 12 [.call 12 [.idx (.var 21) (.int 2),.tup [.str "sum",.tup [.tup [.var 22,.int 1]],.int 0],.idx (.var 21) (.int 0)],.tup [.str "sum",.tup [.tup [.var 23,.int 1]],.int 0],.idx (.var 21) (.int 1)])],false⟩
noncomputable def YM:Fn:=⟨[21,24],[.ret (.bin .add (.bin .add (.bin .mul (.idx (.var 21) (.int 0)) (.idx (.var 24) (.int 0))) (.bin .mul (.idx (.var 21) (.int 1)) (.idx (.var 24) (.int 1)))) (.idx (.var 21) (.int 2)))],false⟩
noncomputable def GL:Fn:=⟨[18],[.assign (.pt (.tup [.nm 60,.nm 61])) (.tup [.cmp .eq (.call 100 [.var 18,.int 2]) (.int 0),.cmp .eq (.call 100 [.var 18,.int 4]) (.int 3)]),.assign (.pt (.tup [.nm 62,.nm 19])) (.tup [.Dm [],.int 1]),.for (.nm 25) (.DL (.ite (.var 60) (.int 1) (.int 2))) [.assign (.pt (.nm 4)) (.bin .sub (.call 100 [.var 18,.int 3]) (.int 1)),.expr (.bm (.var 62) .append [.tup [.var 4,.bin .add (.var 4) (.call 100 [.var 18,.ite (.var 60) (.int 3) (.int 2)])]]),.assign (.pt (.nm 19)) (.bin .mul (.var 19) (.bin .add (.bin .sub (.idx (.idx (.var 62) (.var 25)) (.int 1)) (.var 4)) (.int 1)))],.assign (.pt (.nm 7)) (.lst [.tup [.int 0,.int 0,.int 0],.tup [.int 0,.int 0,.int 1],.tup [.int 0,.int 0,.int 2],.tup [.int 1,.int 0,.int 0],.tup [.int 0,.int 1,.int 0],.tup [.int 0,.int 1,.int 1]]),.assign (.pt (.nm 20)) (.comp (.call 101 [.var 18,.ite (.var 61) (.lst [.bool true,.bool false,.str "b",.str "not b"]) (.var 7)]) [.mk (.nm 25) (.DL (.var 19)) []] [25,115]),.assign (.pt (.nm 26)) (.lst [.tup [.int 0,.int 0,.bin .sub (.call 100 [.var 18,.int 5]) (.int 1)],.tup [.int 1,.int 0,.int 0],.tup [.int 0,.int 1,.int 0],.tup [.int 1,.int 0,.neg (.int 1)],.tup [.neg (.int 1),.int 0,.int 2],.tup [.int 1,.int 1,.int 0]]),.assign (.pt (.nm 27)) (.comp (.call 101 [.var 18,.var 26]) [.mk (.nm 12) (.val (.var 62)) []] [12,115]),.ite (.and [.not (.var 60),.cmp .eq (.call 100 [.var 18,.int 2]) (.int 0)]) [.assign (.pt (.nm 63)) (.bin .add (.bin .sub (.idx (.idx (.var 62) (.int 1)) (.int 1)) (.idx (.idx (.var 62) (.int 1)) (.int 0))) (.int 1)),.assign (.pt (.nm 27)) (.lst [.tup [.int 1,.int 0,.int 0],.tup [.bin .sub (.int 0) (.var 63),.int 0,.bin .sub (.call 100 [.var 18,.int 7]) (.int 1)]])] [],.assign (.pt (.nm 28)) (.FA [.str "bits",.var 61,.str "ranges",.bi .tuple [.var 62],.str "some",.var 20,.str "indexes",.var 27]),.assign (.tup [.sub (.var 28) (.str "sign"),.sub (.var 28) (.str "other")]) (.tup [.call 101 [.var 18,.lst [.str "<=",.str "=",.str "!="]],.call 101 [.var 18,.slice (.var 7) (.int 4)]]),.assign (.tup [.sub (.var 28) (.str "top"),.sub (.var 28) (.str "want"),.sub (.var 28) (.str "beside")]) (.tup [.cmp .eq (.call 100 [.var 18,.int 3]) (.int 0),.cmp .eq (.call 100 [.var 18,.int 2]) (.int 0),.cmp .eq (.call 100 [.var 18,.int 4]) (.int 3)]),.ret (.var 28)],false⟩
noncomputable def GJ:Fn:=⟨[29,28,22,23,30],[.assign (.pt (.nm 31)) (.FA [.str "b",.tup [.str "bit",.var 30,.bool true],.str "not b",.tup [.str "bit",.var 30,.bool false]]),.assign (.pt (.nm 20)) (.comp (.ite (.idx (.var 28) (.str "bits")) (.bm (.var 31) .get [.var 12,.var 12]) (.call 102 [.var 12,.var 22,.var 23])) [.mk (.nm 12) (.val (.idx (.var 28) (.str "some"))) []] [12,115]),.assign (.pt (.tup [.nm 27,.nm 13])) (.tup [.comp (.call 102 [.var 12,.var 22,.var 23]) [.mk (.nm 12) (.val (.idx (.var 28) (.str "indexes"))) []] [12,115],.call 102 [.idx (.var 28) (.str "other"),.var 22,.var 23]]),.assign (.attr (.var 29) 0) (.ite (.idx (.var 28) (.str "top")) .none (.Dm [])),.assign (.pt (.nm 6)) (.Af (.var 29) 25 [.tup [.idx (.var 28) (.str "ranges"),.var 20],.var 27,.int 0]),.ite (.not (.idx (.var 28) (.str "bits"))) [.assign (.pt (.nm 6)) (.Af (.var 29) 30 [.idx (.var 28) (.str "sign"),.var 6,.var 13])] [],.ite (.not (.idx (.var 28) (.str "top"))) [.assign (.pt (.nm 6)) (.Af (.var 29) 12 [.bin .add (.lst [.var 6]) (.attr (.var 29) 0)])] [],.assign (.attr (.var 29) 0) .none,.assign (.pt (.nm 6)) (.ite (.idx (.var 28) (.str "want")) (.var 6) (.call 1 [.var 6])),.expr (.Af (.var 29) 15 [.bin .add (.lst [.var 6]) (.ite (.idx (.var 28) (.str "beside")) (.lst [.idx (.var 31) (.str "b")]) (.lst []))])],true⟩
noncomputable def K8:Fn:=⟨[28,24],[.assign (.pt (.nm 32)) (.int 0),.for (.tup [.tup [.nm 4,.nm 5],.nm 21]) (.zip (.idx (.var 28) (.str "ranges")) (.idx (.var 28) (.str "indexes"))) [.assign (.pt (.nm 55)) (.call 103 [.var 21,.var 24]),.ite (.not (.chain (.var 4) .le (.var 55) .le (.var 5))) [.ret (.and [.not (.idx (.var 28) (.str "top")),.or [.not (.idx (.var 28) (.str "want")),.and [.idx (.var 28) (.str "beside"),.cmp .eq (.idx (.var 24) (.int 2)) (.int 1)]]])] [],.assign (.pt (.nm 32)) (.bin .sub (.bin .add (.bin .mul (.var 32) (.bin .add (.bin .sub (.var 5) (.var 4)) (.int 1))) (.var 55)) (.var 4))],.assign (.pt (.nm 12)) (.idx (.idx (.var 28) (.str "some")) (.var 32)),.ite (.idx (.var 28) (.str "bits")) [.assign (.pt (.nm 64)) (.bm (.FA [.str "b",.cmp .eq (.idx (.var 24) (.int 2)) (.int 1),.str "not b",.cmp .eq (.idx (.var 24) (.int 2)) (.int 0)]) .get [.var 12,.var 12])] [.assign (.pt (.tup [.nm 17,.nm 69])) (.tup [.call 103 [.var 12,.var 24],.call 103 [.idx (.var 28) (.str "other"),.var 24]]),.assign (.pt (.nm 64)) (.ite (.cmp .eq (.idx (.var 28) (.str "sign")) (.str "<=")) (.cmp .le (.var 17) (.var 69)) (.cmp .eq (.cmp .eq (.var 17) (.var 69)) (.cmp .eq (.idx (.var 28) (.str "sign")) (.str "="))))],.ret (.or [.cmp .eq (.var 64) (.idx (.var 28) (.str "want")),.and [.idx (.var 28) (.str "beside"),.cmp .eq (.idx (.var 24) (.int 2)) (.int 1)]])],true⟩
noncomputable def YJ:Fn:=⟨[33,34],[.assign (.pt (.nm 35)) (.bi .sum [.comp (.bin .mul (.var 65) (.idx (.var 34) (.var 8))) [.mk (.tup [.nm 65,.nm 8]) (.zip (.idx (.var 33) (.int 1)) (.idx (.var 33) (.int 2))) []] [65,8,115]]),.ret (.ite (.cmp .eq (.idx (.var 33) (.int 0)) (.str "linear_le")) (.cmp .le (.var 35) (.idx (.var 33) (.int 3))) (.cmp .eq (.cmp .eq (.var 35) (.idx (.var 33) (.int 3))) (.cmp .eq (.idx (.var 33) (.int 0)) (.str "linear_eq"))))],true⟩
noncomputable def YL:Fn:=⟨[33],[.ite (.cmp .isin (.idx (.var 33) (.int 0)) (.lst [.str "linear_le",.str "linear_eq",.str "linear_ne"])) [.ret (.bi .list [.idx (.var 33) (.int 2)])] [],.ite (.cmp .isin (.idx (.var 33) (.int 0)) (.lst [.str "reif",.str "imp"])) [.ret (.bin .add (.bi .list [.idx (.idx (.var 33) (.int 2)) (.int 2)]) (.lst [.idx (.var 33) (.int 1)]))] [],.ite (.cmp .eq (.idx (.var 33) (.int 0)) (.str "clause")) [.ret (.bi .list [.bin .add (.idx (.var 33) (.int 1)) (.idx (.var 33) (.int 2))])] [],.ite (.cmp .isin (.idx (.var 33) (.int 0)) (.lst [.str "and",.str "or"])) [.ret (.bin .add (.bi .list [.idx (.var 33) (.int 1)]) (.lst [.idx (.var 33) (.int 2)]))] [],.ret (.bin .add (.lst [.idx (.var 33) (.int 1),.idx (.var 33) (.int 3)]) (.ite (.cmp .eq (.idx (.var 33) (.int 0)) (.str "element")) (.bi .list [.idx (.var 33) (.int 2)]) (.lst [])))],true⟩
noncomputable def YK:Fn:=⟨[33,34],[.ite (.cmp .isin (.idx (.var 33) (.int 0)) (.lst [.str "and",.str "or"])) [.ret (.ite (.cmp .eq (.idx (.var 33) (.int 0)) (.str "and")) (.bi .min [.comp (.idx (.var 34) (.var 8)) [.mk (.nm 8) (.val (.idx (.var 33) (.int 1))) []] [8,115]]) (.bi .max [.comp (.idx (.var 34) (.var 8)) [.mk (.nm 8) (.val (.idx (.var 33) (.int 1))) []] [8,115]]))] [],.ite (.not (.chain (.int 1) .le (.idx (.var 34) (.idx (.var 33) (.int 1))) .le (.bi .len [.idx (.var 33) (.int 2)]))) [.ret .none] [],.assign (.pt (.nm 12)) (.idx (.idx (.var 33) (.int 2)) (.bin .sub (.idx (.var 34) (.idx (.var 33) (.int 1))) (.int 1))),.ret (.ite (.cmp .eq (.idx (.var 33) (.int 0)) (.str "element")) (.idx (.var 34) (.var 12)) (.var 12))],true⟩
noncomputable def HO:Fn:=⟨[33,8,34],[.ite (.and [.cmp .eq (.idx (.var 33) (.int 0)) (.str "imp"),.cmp .ne (.var 8) (.idx (.var 33) (.int 1)),.cmp .eq (.idx (.var 34) (.idx (.var 33) (.int 1))) (.int 1)]) [.assign (.pt (.nm 33)) (.idx (.var 33) (.int 2))] [],.ite (.cmp .eq (.idx (.var 33) (.int 0)) (.str "linear_eq")) [.assign (.pt (.nm 65)) (.bi .sum [.comp (.var 17) [.mk (.tup [.nm 17,.nm 77]) (.zip (.idx (.var 33) (.int 1)) (.idx (.var 33) (.int 2))) [.cmp .eq (.var 77) (.var 8)]] [17,77,115]]),.assign (.pt (.nm 66)) (.bin .sub (.idx (.var 33) (.int 3)) (.bi .sum [.comp (.bin .mul (.var 17) (.idx (.var 34) (.var 77))) [.mk (.tup [.nm 17,.nm 77]) (.zip (.idx (.var 33) (.int 1)) (.idx (.var 33) (.int 2))) [.cmp .ne (.var 77) (.var 8)]] [17,77,115]])),.ret (.ite (.and [.cmp .ne (.var 65) (.int 0),.cmp .eq (.bin .mod (.var 66) (.var 65)) (.int 0)]) (.bin .fdiv (.var 66) (.var 65)) .none)] [],.ite (.cmp .eq (.idx (.var 33) (.int 0)) (.str "reif")) [.ret (.ite (.cmp .eq (.var 8) (.idx (.var 33) (.int 1))) (.bi .int [.call 107 [.idx (.var 33) (.int 2),.var 34]]) .none)] [],.ite (.cmp .eq (.idx (.var 33) (.int 0)) (.str "clause")) [.ite (.or [.cmp .isin (.int 1) (.comp (.idx (.var 34) (.var 77)) [.mk (.nm 77) (.val (.idx (.var 33) (.int 1))) [.cmp .ne (.var 77) (.var 8)]] [77,115]),.cmp .isin (.int 0) (.comp (.idx (.var 34) (.var 77)) [.mk (.nm 77) (.val (.idx (.var 33) (.int 2))) [.cmp .ne (.var 77) (.var 8)]] [77,115])]) [.ret .none] [],.ret (.ite (.cmp .isin (.var 8) (.idx (.var 33) (.int 1))) (.int 1) (.int 0))] [],.ret (.ite (.and [.cmp .isin (.idx (.var 33) (.int 0)) (.lst [.str "and",.str "or",.str "element",.str "element_of"]),.cmp .eq (.var 8) (.idx (.var 33) (.neg (.int 1)))]) (.call 109 [.var 33,.var 34]) .none)],true⟩
noncomputable def Mm:Fn:=⟨[33,34],[.ite (.cmp .isin (.idx (.var 33) (.int 0)) (.lst [.str "linear_le",.str "linear_eq",.str "linear_ne"])) [.ret (.call 107 [.var 33,.var 34])] [],.ite (.cmp .eq (.idx (.var 33) (.int 0)) (.str "reif")) [.ret (.cmp .eq (.idx (.var 34) (.idx (.var 33) (.int 1))) (.bi .int [.call 107 [.idx (.var 33) (.int 2),.var 34]]))] [],.ite (.cmp .eq (.idx (.var 33) (.int 0)) (.str "imp")) [.ret (.or [.cmp .eq (.idx (.var 34) (.idx (.var 33) (.int 1))) (.int 0),.call 107 [.idx (.var 33) (.int 2),.var 34]])] [],.ite (.cmp .eq (.idx (.var 33) (.int 0)) (.str "clause")) [.ret (.or [.cmp .isin (.int 1) (.comp (.idx (.var 34) (.var 8)) [.mk (.nm 8) (.val (.idx (.var 33) (.int 1))) []] [8,115]),.cmp .isin (.int 0) (.comp (.idx (.var 34) (.var 8)) [.mk (.nm 8) (.val (.idx (.var 33) (.int 2))) []] [8,115])])] [],.ret (.cmp .eq (.idx (.var 34) (.idx (.var 33) (.neg (.int 1)))) (.call 109 [.var 33,.var 34]))],true⟩
noncomputable def It:Fn:=⟨[36,34],[.assign (.pt (.nm 37)) (.comp (.var 8) [.mk (.nm 8) (.DL (.Af (.var 36) 2 [])) [.cmp .FE (.var 8) (.var 34)]] [8,115]),.for (.nm 8) (.val (.var 37)) [.assign (.pt (.nm 46)) (.Af (.var 36) 3 [.var 8]),.ite (.cmp .eq (.idx (.idx (.var 46) (.int 0)) (.int 0)) (.idx (.idx (.var 46) (.neg (.int 1))) (.int 1))) [.assign (.sub (.var 34) (.var 8)) (.idx (.idx (.var 46) (.int 0)) (.int 0))] []],.assign (.pt (.nm 38)) (.bool true),.while (.var 38) [.assign (.pt (.nm 38)) (.bool false),.for (.nm 33) (.val (.attr (.var 36) 4)) [.assign (.pt (.nm 66)) (.comp (.var 8) [.mk (.nm 8) (.val (.call 108 [.var 33])) [.cmp .FE (.var 8) (.var 34)]] [8,115]),.ite (.and [.cmp .ne (.var 66) (.lst []),.cmp .eq (.var 66) (.bin .mul (.slice (.var 66) (.int 1)) (.bi .len [.var 66]))]) [.assign (.pt (.nm 6)) (.call 110 [.var 33,.idx (.var 66) (.int 0),.var 34]),.ite (.KZ (.var 6)) [.assign (.tup [.sub (.var 34) (.idx (.var 66) (.int 0)),.pt (.nm 38)]) (.tup [.var 6,.bool true])] []] []]],.ite (.or [.cmp .lt (.bi .len [.var 34]) (.Af (.var 36) 2 []),.cmp .ne (.comp (.var 33) [.mk (.nm 33) (.val (.attr (.var 36) 4)) [.not (.call 111 [.var 33,.var 34])]] [33,115]) (.lst [])]) [.ret (.bool false)] [],.for (.nm 8) (.val (.var 34)) [.ite (.cmp .eq (.comp (.var 4) [.mk (.tup [.nm 4,.nm 5]) (.val (.Af (.var 36) 3 [.var 8])) [.chain (.var 4) .le (.idx (.var 34) (.var 8)) .le (.var 5)]] [4,5,115]) (.lst [])) [.ret (.bool false)] []],.ret (.bool true)],true⟩
noncomputable def Fm:Fn:=⟨[39],[.assign (.pt (.tup [.nm 18,.nm 29])) (.tup [.FA [.str "cells",.bin .add (.comp (.bin .mod (.bi .abs [.var 78]) (.int 1000003)) [.mk (.nm 78) (.val (.slice (.var 39) (.int 50))) []] [78,115]) (.bin .mul (.lst [.int 0]) (.bi .int [.cmp .eq (.var 39) (.lst [])])),.str "spot",.int 0],.new 2]),.assign (.pt (.tup [.nm 22,.nm 23,.nm 30])) (.tup [.Af (.attr (.var 29) 7) 0 [.str "x",.tup [.tup [.int 0,.int 2]]],.Af (.attr (.var 29) 7) 0 [.str "y",.tup [.tup [.int 0,.int 1]]],.Af (.attr (.var 29) 7) 0 [.str "b",.tup [.tup [.int 0,.int 1]]]]),.assign (.pt (.nm 40)) (.Dm [.call 104 [.var 18]]),.ite (.cmp .eq (.bi .len [.idx (.idx (.var 40) (.int 0)) (.str "ranges")]) (.int 1)) [.expr (.bm (.var 40) .append [.call 104 [.var 18]])] [],.assign (.pt (.nm 41)) (.call 100 [.var 18,.int 2]),.for (.nm 28) (.val (.var 40)) [.expr (.call 105 [.var 29,.var 28,.var 22,.var 23,.var 30])],.for (.nm 24) (.val (.comp (.tup [.var 75,.var 76,.var 41]) [.mk (.nm 75) (.DL (.int 3)) [],.mk (.nm 76) (.DL (.int 2)) []] [75,76,115])) [.assign (.pt (.nm 67)) (.cmp .eq (.comp (.var 28) [.mk (.nm 28) (.val (.var 40)) [.not (.call 106 [.var 28,.var 24])]] [28,115]) (.lst [])),.ite (.cmp .ne (.call 112 [.attr (.var 29) 7,.FA [.var 22,.idx (.var 24) (.int 0),.var 23,.idx (.var 24) (.int 1),.var 30,.idx (.var 24) (.int 2)]]) (.var 67)) [.ret (.bool false)] []],.ret (.bool true)],false⟩
noncomputable def Ek:List (Nat×Fn):=[(0,Se),(1,YA),(3,Sf),(4,YB),(6,YC),(7,YD),(8,YE),(9,YF),(10,YN),(12,Sh),(14,YO),(16,YP),(19,YQ),(22,Xq),(23,Xp),(24,Xr),(25,Xs),(26,Xt),(27,Xx),(30,Xu),(31,Xv),(34,FL),(35,Xw),(38,Xy),(40,Xz),(42,X1),(43,X2),(44,X3),(45,X4),(46,K5),(48,Sb),(49,X5),(50,X6),(51,X7),(52,K6),(53,K7),(55,Sd),(56,X8),(57,X9),(58,X'),(100,YH),(101,YG),(102,YI),(103,YM),(104,GL),(105,GJ),(106,K8),(107,YJ),(108,YL),(109,YK),(110,HO),(111,Mm),(112,It),(113,Fm)]
noncomputable def KL:List (Nat×Option Nat×Str):=[(0,none,AK "common_of"),(1,none,AK "contrary"),(3,none,AK "from_values"),(4,none,AK "greatest"),(6,none,AK "is_array"),(7,none,AK "is_known"),(8,none,AK "is_made"),(9,none,AK "is_truth"),(10,none,AK "least"),(12,none,AK "plus"),(14,none,AK "put_behind"),(16,none,AK "range_of"),(19,none,AK "sum_of"),(22,some 0,AK "__init__"),(23,some 0,AK "domain_of"),(24,some 0,AK "new_var"),(25,some 0,AK "post"),(26,some 0,AK "size"),(27,some 2,AK "__init__"),(30,some 2,AK "chosen_of"),(31,some 2,AK "compared"),(34,some 2,AK "element"),(35,some 2,AK "equal"),(38,some 2,AK "made_number"),(40,some 2,AK "note"),(42,some 2,AK "stand_in"),(43,some 2,AK "times"),(44,some 2,AK "within"),(45,some 1,AK "__init__"),(46,some 1,AK "all_of"),(48,some 1,AK "bounds"),(49,some 1,AK "once"),(50,some 1,AK "require_row"),(51,some 1,AK "require_some"),(52,some 1,AK "row"),(53,some 1,AK "row_truth"),(55,some 1,AK "told_truth"),(56,some 1,AK "unlike"),(57,some 1,AK "var_of"),(58,some 1,AK "vars_of"),(100,none,AK "_law_draw"),(101,none,AK "_law_any"),(102,none,AK "_law_made"),(103,none,AK "_law_worth"),(104,none,AK "_law_use"),(105,none,AK "_law_posted"),(106,none,AK "_law_is_due"),(107,none,AK "_law_row_holds"),(108,none,AK "_law_vars"),(109,none,AK "_law_told"),(110,none,AK "_law_forced"),(111,none,AK "_law_holds"),(112,none,AK "_law_is_answer"),(113,none,AK "law")]
noncomputable def L8:List ((Nat×Nat)×Nat):=[((0,0),24),((0,1),25),((0,2),26),((0,3),23),((1,4),49),((1,5),48),((1,6),57),((1,7),58),((1,9),52),((1,10),53),((1,11),55),((1,12),46),((1,14),56),((1,15),51),((1,16),50),((2,4),49),((2,5),48),((2,6),57),((2,7),58),((2,9),52),((2,10),53),((2,11),55),((2,12),46),((2,14),56),((2,15),51),((2,16),50),((2,17),40),((2,18),38),((2,19),43),((2,22),42),((2,25),34),((2,26),44),((2,27),30),((2,29),35),((2,30),31)]
noncomputable def Ls:List (Nat×Nat):=[(0,22),(1,45),(2,27)]
noncomputable def varNames:List Str:=[AK "__name__",AK "TRUTHS",AK "TURNED",AK "k",AK "low",AK "high",AK "found",AK "numbers",AK "v",AK "d",AK "value",AK "kind",AK "one",AK "other",AK "factor",AK "parts",AK "truth",AK "a",AK "src",AK "many",AK "some",AK "row",AK "x",AK "y",AK "here",AK "lap",AK "places",AK "indexes",AK "use",AK "f",AK "b",AK "bits",AK "place",AK "told",AK "known",AK "total",AK "flat",AK "waiting",AK "has_turned",AK "script",AK "uses",AK "side",AK "self",AK "what",AK "spot",AK "name",AK "domain",AK "constant",AK "key",AK "is_new",AK "turned",AK "truths",AK "kept",AK "ends",AK "sign",AK "index",AK "rows",AK "others",AK "is_strict",AK "cells",AK "is_flat",AK "is_bits",AK "ranges",AK "wide",AK "is_so",AK "coef",AK "rest",AK "due",AK "common",AK "c",AK "coefs",AK "signs",AK "ups",AK "downs",AK "z",AK "p",AK "q",AK "u",AK "cell",AK "MOST_POWER",AK "base",AK "meaning",AK "made",AK "pairs",AK "has_changed",AK "meanings",AK "is_wanted",AK "most",AK "fewest",AK "e",AK "three",AK "pick",AK "two",AK "t",AK "four",AK "later",AK "r",AK "left",AK "right",AK "is_answer",AK "feed",AK "i",AK "j",AK "bit",AK "way",AK "begun",AK "noted",AK "late",AK "first",AK "second",AK "worth",AK "meant",AK "is_worth",AK "w",AK "value_in",AK ".0"]
noncomputable def Y2:List Str:=[AK "partial",AK "what",AK "spot",AK "vars",AK "tolds",AK "goal",AK "shown",AK "flat",AK "made"]
noncomputable def fV:List Str:=[AK "new_var",AK "post",AK "size",AK "domain_of",AK "once",AK "bounds",AK "var_of",AK "vars_of",AK "strength_of",AK "row",AK "row_truth",AK "told_truth",AK "all_of",AK "any_of",AK "unlike",AK "require_some",AK "require_row",AK "note",AK "made_number",AK "times",AK "divided",AK "above_or_below",AK "stand_in",AK "absolute",AK "extreme",AK "element",AK "within",AK "chosen_of",AK "either",AK "equal",AK "compared",AK "require_compared",AK "many_of",AK "is_less"]
noncomputable def ah:List Str:=[AK "Flat",AK "Gatherer",AK "Functions"]
end
end Mine
end
section
set_option tactic.hygienic false
local macro_rules |`(?$x:ident)=>if x.getId==`r then`(by rfl)else Lean.Macro.throwUnsupported
open PySem
set_option maxRecDepth 10000
namespace Mine
noncomputable section
section
mutual
open A
variable{P:Pg}{e AC i:Env}{f T d q:St}{B:Ee}{n:Nat}
abbrev AN(B:Ee)(n:Nat):Pg:=⟨Ae B n,B.glob,B.Af,B.init,B.wf⟩
def b1{c g:Type}{o}{w}{a:c}{r:Option g}(h:o=some a)(b:w a=r):o.bind w=r:=J h b
def m1{c g:Type}{o}{w}{a:c}{r:g}(h:o=some a)(b:w a=r):o.map w=some r:=J h (Mine.AU b rfl)
@[elab_as_elim]theorem mc{c:Type}{a b:c}{l:List c}{P:c->Prop}(h:a∈b::l)(j:P b)(k:a∈l->P a):P a:=(BU.mp h).elim (λg=>BX g▸j) k
def JO(h:f.objs k=some (.list u)):listAt f k=some u:=b1 h rfl
def La(h:f.objs k=some (.dict z ep)):dictAt f k=some (z,ep):=b1 h rfl
def Lq(h:f.objs k=some (.inst c as)):E9 f k=some (c,as):=b1 h rfl
def CI(h:C1 P z e f=some (D,T)):AD P (.tup z) e f=some (.tup D,T):=m1 h rfl
def KD(h:C1 P z e f=some (D,T)):AD P (.lst z) e f=some (.lst D,T):=m1 h rfl
def bk(h:C1 P z e f=some (D,T)):AD P (.Dm z) e f=some (.ref T.next,T.new (.list D)):=m1 h rfl
def BA(g:AD P a e f=some (x,T))(j:AD P b e T=some (A,d))(h:Cc d c x A=some v):AD P (.bin c a b) e f=some (v,d):=b1 g (b1 j (m1 h rfl))
def Aq(g:AD P a e f=some (x,T))(j:AD P b e T=some (A,d))(h:BZ d c x A=some t):AD P (.cmp c a b) e f=some (.bool t,d):=b1 g (b1 j (m1 h rfl))
def BM(c:AD P a e f=some (x,T))(g:AD P b e T=some (A,d))(h:DT d x A=some v):AD P (.idx a b) e f=some (v,d):=b1 c (b1 g (m1 h rfl))
def Gf(b:AD P a e f=some (x,T))(h:Bb T x=some t):AD P (.not a) e f=some (.bool !t,T):=b1 b (m1 h rfl)
def BI(b:C1 P a e f=some (D,T))(h:P.call w D T=some r):AD P (.call w a) e f=some r:=b1 b h
def B5(l:AD P o e f=some (.ref k,T))(g:T.objs k=some (.inst c as))(j:P.Af c m=some w)(b:C1 P a e T=some (D,d))(h:P.call w (.ref k::D) d=some r):AD P (.Af o m a) e f=some r:=b1 l (b1 rfl (b1 (Lq g) (b1 j (b1 b h))))
def IG(h:AD P o e f=some (.ref k,T))(g:T.objs k=some (.inst c as))(b:DI as a=some v):AD P (.attr o a) e f=some (v,T):=b1 h (b1 rfl (b1 (Lq g) (m1 b rfl)))
def Bk(c:C1 P a e f=some (D,T))(h:Cb T b D=some r):AD P (.bi b a) e f=some r:=b1 c h
def G'(c:AD P o e f=some (v,T))(g:FQ T v m=true)(b:C1 P a e T=some (D,d))(h:E3 d v m D=some r):AD P (.bm o m a) e f=some r:=b1 c (by dsimp only;show J (AG g) ?_;show b1 b h)
def JE(j:AD P c e f=some (x,T))(g:Bb T x=some t)(h:(if t then AD P a e T else AD P b e T)=some r):AD P (.ite c a b) e f=some r:=b1 j (b1 g (by clear g;cases t<;>show h))
def AL{v:V}(h:AD P j e f=some (v,T))(a:C1 P z e T=some (D,d)):C1 P (j::z) e f=some (v::D,d):=b1 h (m1 a rfl)
def Az(h:AD P j e f=some (v,T))(a:Gl P t v e T=some (AC,d)):A8 P (.assign t j) e f=some (.next,AC,d):=b1 h (m1 a rfl)
def D3(h:AD P j e f=some (.none,T)):A8 P (.expr j) e f=some (.next,e,T):=b1 h rfl
def BL(h:AD P j e f=some (v,T)):A8 P (.ret j) e f=some (.ret v,e,T):=m1 h rfl
def Ov(j:AD P c e f=some (x,T))(g:Bb T x=some t)(h:(if t then Ao P a e T else Ao P b e T)=some r):A8 P (.ite c a b) e f=some r:=b1 (b1 j (m1 g rfl)) (by clear g;cases t<;>show h)
def BS(g:AD P c e f=some (x,T))(j:Bb T x=some true)(h:Ao P a e T=some r):A8 P (.ite c a b) e f=some r:=Ov g j h
def Bq(g:AD P c e f=some (x,T))(j:Bb T x=some false)(h:Ao P b e T=some r):A8 P (.ite c a b) e f=some r:=Ov g j h
def E6(g:AD P c e f=some (x,T))(j:Bb T x=some true)(h:AD P a e T=some r):AD P (.ite c a b) e f=some r:=JE g j h
def Fz(g:AD P c e f=some (x,T))(j:Bb T x=some false)(h:AD P b e T=some r):AD P (.ite c a b) e f=some r:=JE g j h
def Ea(a:C2 P N e f=some (u,g,T))(h:Cw (λx e f=>(BP p x e).bind λe=>Ao P b e f) g u e T=some r):A8 P (.for p N b) e f=some r:=b1 a h
def AI(h:A8 P s e f=some (.next,AC,T))(a:Ao P b AC T=some r):Ao P (s::b) e f=some r:=b1 h a
def Ap(h:A8 P s e f=some (.ret v,AC,T)):Ao P (s::a) e f=some (.ret v,AC,T):=b1 h rfl
def Lk{fl:Fl}(c:B.fn w=some ⟨j,b,g⟩)(a:GZ j D=some e)(h:Ao (AN B n) b e f=some (fl,AC,T)):Ae B (n+1) w D f=some (fl.val,if g then f.pop T else T):=b1 c (b1 a (m1 h rfl))
def F0(c:B.fn w=some ⟨g,b,false⟩)(a:GZ g D=some e)(h:Ao (AN B n) b e f=some (.ret v,AC,T)):Ae B (n+1) w D f=some (v,T):=Lk c a h
def Lj(c:B.fn w=some ⟨g,b,false⟩)(a:GZ g D=some e)(h:Ao (AN B n) b e f=some (.next,AC,T)):Ae B (n+1) w D f=some (.none,T):=Lk c a h
def DR(c:B.fn w=some ⟨g,b,true⟩)(a:GZ g D=some e)(h:Ao (AN B n) b e f=some (.ret v,AC,T)):Ae B (n+1) w D f=some (v,f.pop T):=Lk c a h
def Uk(c:B.fn w=some ⟨g,b,true⟩)(a:GZ g D=some e)(h:Ao (AN B n) b e f=some (.next,AC,T)):Ae B (n+1) w D f=some (.none,f.pop T):=Lk c a h
end
end
section
mutual
open A
variable{P:Pg}{e AC a:Env}{f T c b:St}
def AH(h:e i=some v):AD P (.var i) e f=some (v,f):=m1 h rfl
def comp_map(step:∀x∈u,w x f=some (h x,f)):Dr w none u f=some (u.flatMap h,f):=by induction u with|nil=>rfl|cons x u g=>show b1 (step x AR) (by dsimp only;show J (AG (by trivial)) ?_;show m1 (g λy d=>step y (Ah _ d)) rfl)
end
end
noncomputable def ES(F:Fn)(i:Nat):List MS:=match F.body[i]? with|some (.for _ _ b)=>b|_=>[]
section
mutual
open A
variable{P:Pg}{e AC a:Env}{f T i d:St}
def EC(h:AD P j e f=some (v,T))(b:Nz T v=some (u,g)):C2 P (.val j) e f=some (u,g,T):=b1 h (m1 b rfl)
def NP(l:C2 P N e f=some (u,none,f))(step:∀x∈u,∃c,BP p x (clear e r)=some c/\AD P b c f=some (h x,f))(m:u.length<lim):AD P (.comp b [.mk p N []] r) e f=some (.lst (u.map h),f):=by have g:FY P _ [.mk p N []] _ e f=_:=b1 l (comp_map λx n=>by show AJ (step x n) λc j k=>b1 j (m1 k rfl));show b1 g ?_;dsimp only;(show Mine.AU List.map_eq_flatMap ?_;show J (AG (by rw[Al];show m)) ?_;rfl)
def Un{b j:Type}{t:b->Bool}{h:b->j}(u:List b):(u.flatMap λx=>if t x then[h x]else[])=(u.filter t).map h:=by induction u with|nil=>rfl|cons x u g=>cases c:t x<;>simp[c,g]
def bg(o:C2 P N e f=some (u,none,f))(step:∀x∈u,∃g v,BP p x (clear e r)=some g/\AD P c g f=some (v,f)/\Bb f v=some (t x)/\(t x=true->AD P b g f=some (h x,f)))(q:u.length<lim):AD P (.comp b [.mk p N [c]] r) e f=some (.lst ((u.filter t).map h),f):=by have l:FY P _ [.mk p N [c]] _ e f=some (u.flatMap λx=>if t x then _ else[],f):=b1 o (comp_map λx s=>by show Gr (step x s) λg v m k h3 n=>b1 m ?_;cases j:t x with|true=>rw[j]at h3;show b1 (b1 k (b1 h3 rfl)) (m1 (n j) rfl)|false=>rw[j]at h3;show b1 (b1 k (b1 h3 rfl)) rfl);show b1 l ?_;dsimp only;(show J (Un u) ?_;show J (AG (by rw[Al];show Ai (H9 _ _) q)) ?_;rfl)
end
end
mutual
open A
set_option genCtorIdx false in
inductive Ent where
 |v (t:Nat) (o:Option (V×St)) (r:V×St)
 |s (o:Option (Fl×Env×St)) (r:Fl×Env×St)
abbrev Lg:=List Ent
def Ent.ok(j:Ent):Prop:=Ent.rec (motive:=λ_=>Prop) (λ_ o r=>o=some r) (λo r=>o=some r) j
def A0(M:Lg):Prop:=List.rec (motive:=λ_=>Prop) True (λe _ h=>e.ok/\h) M
abbrev KK(a d:Type):=a->List Nat->Lg->Option (Lg×d)
abbrev MM(a d:Type):=List Nat->Lg->KK a d->Option (Lg×d)
end
section
mutual
open A
variable{d c e:Type}
noncomputable def N2(j:Ent)(r:Option (Lg×d)):Option (Lg×d):=r.map λp=>(j::p.1,p.2)
noncomputable def pu(o:Option c):MM c d:=λk L K=>o.bind λa=>K a k L
def dv(t:Nat)(o:Option (V×St))(m:MM (V×St) d):MM (V×St) d:=λk L K=>List.rec (motive:=λ_=>Option (Lg×d)) (m k L K) (λf a _=>Ent.rec (motive:=λ_=>Option (Lg×d)) (λg _ r=>bif Nat.beq t g then List.rec (motive:=λ_=>Option (Lg×d)) (N2 (.v t o r) (K r [] a)) (λj b _=>Nat.rec (motive:=λ_=>Option (Lg×d)) (N2 (.v t o r) (K r b a)) (λj _=>m (j::b) L K) j) k else m k L K) (λ_ _=>m k L K) f) L
def dS(o:Option (Fl×Env×St)):MM (Fl×Env×St) d:=λk L K=>List.rec (motive:=λ_=>Option (Lg×d)) (pu o k L K) (λb a _=>Ent.rec (motive:=λ_=>Option (Lg×d)) (λ_ _ _=>pu o k L K) (λ_ r=>N2 (.s o r) (K r k a)) b) L
noncomputable def bb(m:MM c d)(g:c->MM e d):MM e d:=λk L K=>m k L λa k L=>g a k L K
noncomputable def mm(m:MM c d)(g:c->e):MM e d:=λk L K=>m k L λa=>K (g a)
def Ru(m:MM c d)(w:Option c):Prop:=∀k L K b R(G:Prop),m k L K=some (b,R)->A0 b->(∀a h g f,w=some a->K a h g=some (f,R)->A0 f->G)->G
def Ru.pu:Ru (Mine.pu (d:=d) o) o:=λk L K f R G h q b=>by cases o with|none=>show AS h|some a=>show b a k L f rfl h q
def Ru.bb{g:c->MM e d}(o:Ru m w)(n:∀a,Ru (g a) (F a)):Ru (Mine.bb m g) (w.bind F):=λ_ _ _ _ _ _ h q r=>o _ _ _ _ _ _ h q λa _ _ _ i k t=>n a _ _ _ _ _ _ k t λb p f s j l u=>r b p f s (b1 i j) l u
def Ru.mm{m:MM c d}{g:c->e}(j:Ru m w):Ru (Mine.mm m g) (w.map g):=λ_ _ _ _ _ _ h q l=>j _ _ _ _ _ _ h q λa k b n f i o=>l _ k b n (m1 f rfl) i o
def Ru.eq{m:MM c d}(h:Ru m w)(j:w=a):Ru m a:=j▸h
def Qq{R:d}(h:N2 j r=some (g,R))(q:A0 g){G:Prop}(k:∀f,r=some (f,R)->j.ok->A0 f->G):G:=(By.mp h).elim λp z=>by obtain⟨a,b⟩:=DQ z.2;show k _ (z.1.trans (AE (λt=>some (_,t)) b)) (a▸q).1 (a▸q).2
def Ru.dv{m:MM _ d}(g:Ru m o):Ru (Mine.dv t o m) o:=λk L K w R G h q f=>by cases L with|nil=>show g _ _ _ _ _ _ h q f|cons p L=>cases p with|s=>show g _ _ _ _ _ _ h q f|v u x r=>cases n:Nat.beq t u with|false=>show g _ _ _ _ _ _ ((AE (λb=>bif b then _ else _) n).symm.trans h) q f|true=>have h:=(AE (λb=>bif b then _ else _) n).symm.trans h;cases k with|nil=>show Qq h q λl i a b=>f _ _ _ l a i b|cons j k=>cases j with|zero=>show Qq h q λl i a b=>f _ _ _ l a i b|succ j=>show g _ _ _ _ _ _ h q f
def Ru.dS:Ru (Mine.dS (d:=d) o) o:=λk L K l R G h q f=>by cases L with|nil=>show Ru.pu _ _ _ _ _ _ h q f|cons g L=>cases g with|v=>show Ru.pu _ _ _ _ _ _ h q f|s _ r=>show Qq h q λj i a b=>f _ _ _ j a i b
def dp(t:Nat)(o:Option (V×St)):MM (V×St) d:=dv t o (pu o)
def Ru.dp:Ru (Mine.dp (d:=d) t o) o:=.dv .pu
def dT(x:V)(f:St):MM Bool d:=bb (dp 61 ((Bb f x).map λb=>(.bool b,f))) λr=>pu (boolOf r.1)
def Ru.dT:Ru (Mine.dT (d:=d) x f) (Bb f x):=Ru.eq (Ru.bb .dp λ_=>.pu) (by cases Bb f x<;>rfl)
def bC(t:Bool)(a b:MM c d):MM c d:=Bool.rec (motive:=λ_=>MM c d) b a t
def Ru.cs{b:MM c d}(t)(f:Ru a w)(h:Ru b g):Ru (bC t a b) (match t with|true=>w|false=>g):=by cases t with|true=>show f|false=>show h
end
end
noncomputable def MS.cond(s:MS):ME:=MS.casesOn (motive_1:=λ_=>ME) s (λ_ _=>.none) (λ_=>.none) (λ_=>.none) .none (λc _ _=>c) (λ_ _ _=>.none) (λc _=>c) .none (λ_ _ _=>.none) .none
section
mutual
open A
variable{d:Type}(P:Pg)
def dE(j:ME)(e:Env)(f:St):MM (V×St) d:=dp (200+j.ix) (AD P j e f)
end
mutual
def CR:ME->Env->St->MM (V×St) d|.none,_,g=>pu (some (.none,g))|.bool b,_,g=>pu (some (.bool b,g))|.int i,_,g=>pu (some (.int i,g))|.str s,_,g=>pu (some (.str s,g))|.var i,h,g=>dp (300+i) ((h i).map λv=>(v,g))|.glob i,h,g=>pu (AD P (.glob i) h g)|.tup j,h,g=>mm (Hg j h g) λx=>(.tup x.1,x.2)|.lst j,h,g=>mm (Hg j h g) λx=>(.lst x.1,x.2)|.Dm j,h,g=>bb (Hg j h g) λx=>dp 64 (some (.ref x.2.next,x.2.new (.list x.1)))|.FA u,h,g=>dE P (.FA u) h g|.MA,h,g=>pu (AD P .MA h g)|.bin l a b,h,g=>bb (CR a h g) λx=>bb (CR b h x.2) λy=>dp l.ctorIdx ((Cc y.2 l x.1 y.1).map λv=>(v,y.2))|.neg a,h,g=>dE P (.neg a) h g|.not a,h,g=>bb (CR a h g) λx=>mm (dT x.1 x.2) λb=>(.bool !b,x.2)|.and j,h,g=>dv 201 (AD P (.and j) h g) (PQ j h g)|.or j,h,g=>dv 202 (AD P (.or j) h g) (RA j h g)|.cmp l a b,h,g=>bb (CR a h g) λx=>bb (CR b h x.2) λy=>dp (10+l.ctorIdx) ((BZ y.2 l x.1 y.1).map λb=>(.bool b,y.2))|.isNone a,h,g=>bb (CR a h g) λx=>pu (some (.bool (DB x.1),x.2))|.KZ a,h,g=>bb (CR a h g) λx=>pu (some (.bool !DB x.1,x.2))|.chain a w b z c,h,g=>dE P (.chain a w b z c) h g|.ite c a b,h,g=>bb (CR c h g) λx=>bb (dT x.1 x.2) λt=>bC t (CR a h x.2) (CR b h x.2)|.call f k,h,g=>bb (Hg k h g) λx=>dp (1000+f) (P.call f x.1 x.2)|.Af o m k,h,g=>bb (CR o h g) λx=>bb (pu (refOf x.1)) λn=>bb (pu (E9 x.2 n)) λo=>bb (pu (P.Af o.1 m)) λf=>bb (Hg k h x.2) λy=>dp (1000+f) (P.call f (.ref n::y.1) y.2)|.new c,h,g=>dE P (.new c) h g|.bi b k,h,g=>bb (Hg k h g) λx=>dp (30+b.ctorIdx) (Cb x.2 b x.1)|.bm o m k,h,g=>bb (CR o h g) λx=>bb (dp 62 (if FQ x.2 x.1 m then some (.none,x.2)else none)) λ_=>bb (Hg k h x.2) λy=>dp (50+m.ctorIdx) (E3 y.2 x.1 m y.1)|.attr o a,h,g=>bb (CR o h g) λx=>dp 63 ((refOf x.1).bind λn=>(E9 x.2 n).bind λo=>(DI o.2 a).map λv=>(v,x.2))|.idx o i,h,g=>bb (CR o h g) λx=>bb (CR i h x.2) λy=>dp 20 ((DT y.2 x.1 y.1).map λv=>(v,y.2))|.slice o r,h,g=>dE P (.slice o r) h g|.comp p q B,h,g=>dE P (.comp p q B) h g|.KN A e,h,g=>dE P (.KN A e) h g
def Hg:List ME->Env->St->MM (List V×St) d|[],_,a=>pu (some ([],a))|e::c,b,a=>bb (CR e b a) λx=>mm (Hg c b x.2) λy=>(x.1::y.1,y.2)
def PQ:List ME->Env->St->MM (V×St) d|[],_,_=>pu none|[e],a,b=>CR e a b|e::c,a,b=>bb (CR e a b) λx=>bb (dT x.1 x.2) λt=>bC t (PQ c a x.2) (pu (some (x.1,x.2)))
def RA:List ME->Env->St->MM (V×St) d|[],_,_=>pu none|[e],a,b=>CR e a b|e::c,a,b=>bb (CR e a b) λx=>bb (dT x.1 x.2) λt=>bC t (pu (some (x.1,x.2))) (RA c a x.2)
end
mutual
def OW:AT->V->Env->St->MM (Env×St) d|.pt p,v,b,c=>pu ((BP p v b).map λb=>(b,c))|.attr o a,v,b,c=>bb (CR P o b c) λx=>pu ((refOf x.1).bind λn=>(E9 x.2 n).bind λo=>if o.2.length<100 then some (b,x.2.set n (.inst o.1 (Dp o.2 a v)))else none)|.sub o i,v,b,c=>bb (CR P o b c) λx=>bb (CR P i b x.2) λk=>mm (dp 60 ((F9 k.2 x.1 k.1 v).map λc=>(.none,c))) λr=>(b,r.2)|.tup e,v,b,c=>bb (pu (FG v)) λf=>W9 e f b c
def W9:List AT->List V->Env->St->MM (Env×St) d|[],a,b,c=>pu (if a.isEmpty then some (b,c)else none)|t::e,a,b,c=>List.casesOn (motive:=λ_=>MM (Env×St) d) a (pu none) λx a=>bb (OW t x b c) λr=>W9 e a r.1 r.2
end
mutual
def cu:MS->Env->St->MM (Fl×Env×St) d|.assign t e,g,h=>bb (CR P e g h) λx=>mm (OW P t x.1 g x.2) λy=>(.next,y.1,y.2)|.expr e,g,h=>bb (CR P e g h) λx=>pu (if DB x.1 then some (.next,g,x.2)else none)|.ret e,g,h=>mm (CR P e g h) λx=>(.ret x.1,g,x.2)|.OI,g,h=>pu (some (.ret .none,g,h))|.ite c a b,g,h=>bb (bb (CR P c g h) λx=>mm (dT x.1 x.2) λt=>(t,x.2)) λt=>bC t.1 (KI a g t.2) (KI b g t.2)|.for p j b,g,h=>dS (A8 P (.for p j b) g h)|.while c b,g,h=>dS (A8 P (.while c b) g h)|.cont,g,h=>pu (some (.cont,g,h))|.Hu f i c,g,h=>dS (A8 P (.Hu f i c) g h)|.fail,_,_=>pu none
def KI:List MS->Env->St->MM (Fl×Env×St) d|[],a,b=>pu (some (.next,a,b))|s::c,a,b=>bb (cu s a b) λr=>r.1.c (KI c r.2.1 r.2.2) (pu (some (.cont,r.2.1,r.2.2))) λv=>pu (some (.ret v,r.2.1,r.2.2))
end
end
section
mutual
open A
variable{d:Type}{P:Pg}
def Zt{b c:Type}{o:Option b}{w:b->c}:(o.bind λa=>some (w a))=o.map w:=by cases o<;>rfl
def g6{a:Type}{c:Bool}{f:St}{w:Option a}:(if c then some (V.none,f)else none).bind (λ_=>w)=if c then w else none:=by cases c<;>rfl
def RE(P:Pg)(d:Type)(j:ME):Prop:=∀a b,Ru (CR (d:=d) P j a b) (AD P j a b)
def YX(P:Pg)(d:Type)(z:List ME):Prop:=(∀a b,Ru (Hg (d:=d) P z a b) (C1 P z a b))/\(∀a b,Ru (PQ (d:=d) P z a b) (GW P z a b))/\∀a b,Ru (RA (d:=d) P z a b) (Hr P z a b)
def II(j:ME):RE P d j:=ME.rec (motive_2:=λ_=>_) (motive_3:=λ_=>_) (motive_4:=YX P d) (motive_5:=λ_=>_) (λe g=>.pu) (λb e g=>.pu) (λb e g=>.pu) (λb e g=>.pu) (λb e g=>.dp) (λb e g=>.pu) (λk h e g=>.mm (h.1 e g)) (λk h e g=>.mm (h.1 e g)) (λk h e g=>(Ru.bb (h.1 e g) λx=>.dp).eq Zt) (λk h e g=>.dp) (λe g=>.pu) (λz a b l p e g=>.bb (l e g) λx=>.bb (p e _) λy=>.dp) (λa h e g=>.dp) (λa h e g=>.bb (h e g) λx=>.mm .dT) (λk h e g=>.dv (h.2.1 e g)) (λk h e g=>.dv (h.2.2 e g)) (λz a b l p e g=>.bb (l e g) λx=>.bb (p e _) λy=>.dp) (λa h e g=>.bb (h e g) λx=>.pu) (λa h e g=>.bb (h e g) λx=>.pu) (λa B b C c l p u e g=>.dp) (λc a b u l p e g=>.bb (u e g) λx=>.bb .dT λt=>.cs t (l e _) (p e _)) (λf r h e g=>.bb (h.1 e g) λx=>.dp) (λo m r q h e g=>.bb (q e g) λx=>.bb .pu λn=>.bb .pu λo=>.bb .pu λf=>.bb (h.1 e _) λy=>.dp) (λc e g=>.dp) (λb r h e g=>.bb (h.1 e g) λx=>.dp) (λo m r q h e g=>.bb (q e g) λx=>(Ru.bb .dp λ_=>.bb (h.1 e _) λy=>.dp).eq g6) (λo a h e g=>.bb (h e g) λx=>.dp) (λo i q v e g=>.bb (q e g) λx=>.bb (v e _) λy=>.dp) (λo v q A e g=>.dp) (λ_ _ _ _ _ e g=>.dp) (λD j h e g=>.dp) (λ_ _=>trivial) (λ_ _=>trivial) (λ_ _ _ _=>trivial) (λ_ _ _ _ _=>trivial) ⟨λe g=>.pu,λe g=>.pu,λe g=>.pu⟩ (λj k h s=>⟨λe g=>.bb (h e g) λx=>.mm (s.1 e _),by cases k with|nil=>show h|cons w k=>showλe g=>.bb (h e g) λx=>.bb .dT λt=>.cs t (s.2.1 e _) .pu,by cases k with|nil=>show h|cons w k=>showλe g=>.bb (h e g) λx=>.bb .dT λt=>.cs t .pu (s.2.2 e _)⟩) trivial (λ_ _ _ _=>trivial) j
def ff{b c e:Type}{o:Option b}{w}{g:c->e}:(o.map w).map g=o.map λa=>g (w a):=by cases o<;>rfl
def iu(t:AT):∀v e f,Ru (OW (d:=d) P t v e f) (Gl P t v e f):=AT.rec (motive_2:=λc=>∀b e f,_) (λp v e f=>.pu) (λo a v e f=>.bb (II o e f) λx=>.pu) (λo i v e f=>.bb (II o e f) λx=>.bb (II i e _) λk=>(Ru.mm .dp).eq ff) (λc h v e f=>.bb .pu λb=>h b e f) (λb e f=>.pu) (λt c h g b e f=>by cases b with|nil=>show Ru.pu|cons x b=>show Ru.bb (m:=OW P t x e f) (h x e f) λr=>g b _ _) t
def YY(P:Pg)(d:Type)(s:List MS):Prop:=∀a b,Ru (KI (d:=d) P s a b) (Ao P s a b)
def Uj(s):YY P d s:=MS.rec_1 (motive_1:=λs=>∀g j,_) (λt e g j=>.bb (II e g j) λx=>.mm (iu t _ g _)) (λe g j=>.bb (II e g j) λx=>.pu) (λe g j=>.mm (II e g j)) (λg j=>.pu) (λc a b k l g j=>.bb (.bb (II c g j) λx=>.mm .dT) λt=>.cs _ (k g _) (l g _)) (λp n b _ g j=>.dS) (λc b _ g j=>.dS) (λg j=>.pu) (λf i c g j=>.dS) (λg j=>.pu) (λg j=>.pu) (λs o h m g j=>.bb (h g j) λr=>by obtain⟨fl,q,u⟩:=r;cases fl with|next=>show m _ _|cont=>show Ru.pu|ret v=>show Ru.pu) s
end
end
section
mutual
open A
variable{P:Pg}{M:Lg}{e g:Env}{f d:St}{x A E v:V}{D:List V}{r:V×St}{B:Ee}{n w:Nat}
def T'(B:Ee)(n w:Nat)(D:List V)(f:St)(r:V×St):Ent:=.v (1000+w) (Ae B n w D f) r
noncomputable def UH(e:Env)(i:Nat)(f:St)(v:V):Ent:=.v (300+i) ((e i).map λv=>(v,f)) (v,f)
def T8(f:St)(c:K2)(x A v:V):Ent:=.v c.ctorIdx ((Cc f c x A).map λv=>(v,f)) (v,f)
def UA(f:St)(c:H5)(x A:V)(b:Bool):Ent:=.v (10+c.ctorIdx) ((BZ f c x A).map λb=>(.bool b,f)) (.bool b,f)
def UC(f:St)(x A v:V):Ent:=.v 20 ((DT f x A).map λv=>(v,f)) (v,f)
def T7(f:St)(b:Bi)(D:List V)(r:V×St):Ent:=.v (30+b.ctorIdx) (Cb f b D) r
def T9(f:St)(x:V)(m:Bm)(D:List V)(r:V×St):Ent:=.v (50+m.ctorIdx) (E3 f x m D) r
def UE(f:St)(x A v:V)(d:St):Ent:=.v 60 ((F9 f x A v).map λf=>(.none,f)) (.none,d)
def UG(f:St)(x:V)(b:Bool):Ent:=.v 61 ((Bb f x).map λb=>(.bool b,f)) (.bool b,f)
def UD(f:St)(x:V)(m:Bm):Ent:=.v 62 (if FQ f x m then some (.none,f)else none) (.none,f)
def T6(f:St)(m a:Nat)(v:V):Ent:=.v 63 ((E9 f m).bind λo=>(DI o.2 a).map λv=>(v,f)) (v,f)
def bc(f:St)(D:List V)(d:St):Ent:=.v 64 (some (.ref f.next,f.new (.list D))) (.ref f.next,d)
def UB(P:Pg)(j:ME)(e:Env)(f:St)(r:V×St):Ent:=.v (bif Nat.beq j.ix 14 then 201 else bif Nat.beq j.ix 15 then 202 else 200+j.ix) (AD P j e f) r
end
namespace YR
mutual
open A
def call(h:Ae B n w D f=some r)(t:A0 M):A0 (T' B n w D f r::M):=⟨h,t⟩
def var(h:e i=some v)(t:A0 M):A0 (UH e i f v::M):=⟨m1 h rfl,t⟩
def bin(h:Cc f c x A=some v)(t:A0 M):A0 (T8 f c x A v::M):=⟨m1 h rfl,t⟩
def cmp(h:BZ f c x A=some b)(t:A0 M):A0 (UA f c x A b::M):=⟨m1 h rfl,t⟩
def idx(h:DT f x A=some v)(t:A0 M):A0 (UC f x A v::M):=⟨m1 h rfl,t⟩
def bi(h:Cb f b D=some r)(t:A0 M):A0 (T7 f b D r::M):=⟨h,t⟩
def bm(h:E3 f x m D=some r)(t:A0 M):A0 (T9 f x m D r::M):=⟨h,t⟩
def set(h:F9 f x A v=some d)(t:A0 M):A0 (UE f x A v d::M):=⟨m1 h rfl,t⟩
def tr(h:Bb f x=some b)(t:A0 M):A0 (UG f x b::M):=⟨m1 h rfl,t⟩
def pre(h:FQ f x m=true)(t:A0 M):A0 (UD f x m::M):=⟨AG h,t⟩
def attr(h:f.objs m=some (.inst c as))(b:DI as a=some v)(t:A0 M):A0 (T6 f m a v::M):=⟨b1 (Lq h) (m1 b rfl),t⟩
def ex(h:AD P j e f=some r)(t:A0 M):A0 (UB P j e f r::M):=⟨h,t⟩
def st{r}(h:A8 P s e f=some r)(t:A0 M):A0 (.s (A8 P s e f) r::M):=⟨h,t⟩
end
end YR
mutual
open A
def OV{r}(k)(h:KI P b e f k M (λr _ _=>some ([],r))=some (M,r))(o:A0 M):Ao P b e f=some r:=Uj b e f _ _ _ _ _ _ h o λa _ _ j c i _=>c.trans (AE _ (DQ (AP i)).2)
def HA(k)(h:CR P b e f k M (λr _ _=>some ([],r))=some (M,r))(o:A0 M):AD P b e f=some r:=II b e f _ _ _ _ _ _ h o λa _ _ j c i _=>c.trans (AE _ (DQ (AP i)).2)
def QI(B:Ee)(n w:Nat)(D:List V)(f:St)(k:List Nat)(M:Lg):Option (Lg×V×St):=(B.fn w).bind λF=>(GZ F.params D).bind λe=>KI (AN B n) F.body e f k M λr _ _=>some ([],r.1.val,if F.pop then f.pop r.2.2 else r.2.2)
def dN(k)(h:QI B n w D f k M=some (M,v,d))(o:A0 M):Ae B (n+1) w D f=some (v,d):=(Fu.mp h).elim λF h=>(Fu.mp h.2).elim λe b=>Uj _ e f _ _ _ _ _ _ b.2 o λa _ _ j c i _=>b1 h.1 (b1 b.1 ((m1 c rfl).trans (AE _ (DQ (AP i)).2))) 
def C3(k)(h:QI B n w D f k M=some (M,v,f.pop T))(o:A0 M)(a:f.pop T=d):Ae B (n+1) w D f=some (v,d):=a▸dN k h o
end
end
mutual
open A
def T3:Ee:=⟨λi=>Ek.lookup i,λi=>(([(0,.tup [.tup [.int 0,.int 1]],Str.ofString "TRUTHS")]:List (Nat×V×Str)).lookup i).map (·.1),λc m=>L8.lookup (c,m),λc=>Ls.lookup c,4000000⟩
noncomputable def C7(a:List (Nat×Int))(c:Int):V:=.tup [.str "sum",.tup (a.map λp=>.tup [.int p.1,.int p.2]),.int c]
noncomputable def Hb(x:Nat)(s:Bool):V:=.tup [.str "bit",.int x,.bool s]
end
section
mutual
open A
variable{n:Nat}{f:St}
def i8(i):Ae T3 (n+2) 19 [.int i] f=some (C7 [] i,f):=by kernel_rfl
def Ro(a c):Ae T3 (n+2) 19 [C7 a c] f=some (C7 a c,f):=by kernel_rfl
def i7(x):Ae T3 (n+2) 19 [Hb x true] f=some (C7 [(x,1)] 0,f):=by kernel_rfl
def i9(x):Ae T3 (n+2) 19 [Hb x false] f=some (C7 [(x,-1)] 1,f):=by kernel_rfl
def Tt(b):Ae T3 (n+1) 1 [.bool b] f=some (.bool !b,f):=by kernel_rfl
def LZ(x b):Ae T3 (n+1) 1 [Hb x b] f=some (Hb x !b,f):=by kernel_rfl
end
end
section
mutual
open A
abbrev BR:=List (Int×Int)
noncomputable def C0(H:BR):V:=.tup (H.map λp=>.tup [.int p.1,.int p.2])
structure GS where
 vars:List (Str×BR)
 BD:List V
 made:List (CV×V)
 part:Option (Nat×List V)
 other:Nat->Option A'
 next:Nat
def Hy(l:List (Str×BR)):List V:=l.map λp=>.tup [.str p.1,C0 p.2]
noncomputable def Fd:Option (Nat×List V)->V|none=>.none|some (n,_)=>.ref n
noncomputable def Cr(g:GS)(n:Nat):Option A':=match g.part with|none=>g.other n|some (m,l)=>if n=m then some (.list l)else g.other n
def Dn(g:GS):Nat->Option A'|1=>some (.inst 2 [(7,.ref 2),(8,.ref 5),(0,Fd g.part)])|2=>some (.inst 0 [(3,.ref 3),(4,.ref 4),(5,.tup [.str "satisfy",.none]),(6,.tup [])])|3=>some (.list (Hy g.vars))|4=>some (.list g.BD)|5=>some (.D1 g.made)|n=>Cr g n
def U(g:GS):St:=⟨Dn g,g.next⟩
end
section
variable{P:Pg}{M:Lg}{e f:Env}{g:GS}{d:St}{x A E v:V}{D:List V}{r:V×St}{B:Ee}{n w:Nat}
namespace A0
mutual
open A
def nil:A0 []:=trivial
def call(h:Ae B n w D (U g)=some r)(t:A0 M):A0 (T' B n w D (U g) r::M):=⟨h,t⟩
def var(h:e i=some v)(t:A0 M):A0 (UH e i (U g) v::M):=⟨m1 h rfl,t⟩
def bin(h:Cc (U g) c x A=some v)(t:A0 M):A0 (T8 (U g) c x A v::M):=⟨m1 h rfl,t⟩
def cmp(h:BZ (U g) c x A=some b)(t:A0 M):A0 (UA (U g) c x A b::M):=⟨m1 h rfl,t⟩
def idx(h:DT (U g) x A=some v)(t:A0 M):A0 (UC (U g) x A v::M):=⟨m1 h rfl,t⟩
def bi(h:Cb (U g) b D=some r)(t:A0 M):A0 (T7 (U g) b D r::M):=⟨h,t⟩
def bm(h:E3 (U g) x m D=some r)(t:A0 M):A0 (T9 (U g) x m D r::M):=⟨h,t⟩
def set(h:F9 (U g) x A v=some d)(t:A0 M):A0 (UE (U g) x A v d::M):=⟨m1 h rfl,t⟩
def tr(h:Bb (U g) x=some b)(t:A0 M):A0 (UG (U g) x b::M):=⟨m1 h rfl,t⟩
def pre(h:FQ (U g) x m=true)(t:A0 M):A0 (UD (U g) x m::M):=⟨AG h,t⟩
def attr(h:(U g).objs m=some (.inst c as))(b:DI as a=some v)(t:A0 M):A0 (T6 (U g) m a v::M):=⟨b1 (Lq h) (m1 b rfl),t⟩
def ex(h:AD P j e (U g)=some r)(t:A0 M):A0 (UB P j e (U g) r::M):=⟨h,t⟩
def Dm(h:(U g).new (.list D)=d)(t:A0 M):A0 (bc (U g) D d::M):=⟨AE (λs=>some _) h,t⟩
def st{r}(h:A8 P s e (U g)=some r)(t:A0 M):A0 (.s (A8 P s e (U g)) r::M):=⟨h,t⟩
end
end A0
end
section
mutual
open A
variable{n:Nat}{g:GS}
def gj(h:x<k):place k x=some x:=by unfold place;show J (AG (Co x)) (J (AG (Iy.mpr h)) rfl)
def QV{a:Type}{u:List a}{x:Nat}{v:a}(h:u[x]?=some v):((place u.length x).bind λk=>u[k]?)=some v:=by show J (gj (Jt.mp h).1) ?_;show h
def Lr{x:Nat}(a:f.objs k=some (.list u))(h:u[x]?=some v):DT f (.ref k) (.int x)=some v:=b1 a (QV h)
def Gg{x:Nat}(h:u[x]?=some v):DT f (.tup u) (.int x)=some v:=QV h
def KQ{x:Nat}(h:u[x]?=some v):DT f (.lst u) (.int x)=some v:=QV h
def j8{x:Nat}(h:l[x]?=some (s,H)):(Hy l)[x]?=some (.tup [.str s,C0 H]):=by(show J D7 ?_;show J h ?_);rfl
def Z2{x:Nat}(h:g.vars[x]?=some (s,H)):Ae T3 (n+1) 23 [.ref 2,.int x] (U g)=some (C0 H,U g):=F0 ?r ?r (Ap (BL (BM (BM rfl ?r (Lr ?r (j8 h))) ?r rfl)))
def Pq:Ae T3 (n+1) 26 [.ref 2] (U g)=some (.int g.vars.length,U g):=by show F0 ?r ?r (Ap (BL (Bk rfl ?_)));show(?_:some _=_);unfold Hy;rw[Al]
def N4{e:Type}{w g:Nat->e}(a:w 0=g 0)(b:w 1=g 1)(c:w 2=g 2)(h3:w 3=g 3)(k:w 4=g 4)(d:w 5=g 5)(h:∀n,w (n+6)=g (n+6)):w=g:=funext λ|0=>a|1=>b|2=>c|3=>h3|4=>k|5=>d|n+6=>h n
def iB(l):(U g).set 3 (.list (Hy l))=U {g with vars:=l}:=AE (St.mk · g.next) (N4 rfl rfl rfl rfl rfl rfl λn=>rfl)
def iC(l):(U g).set 4 (.list l)=U {g with BD:=l}:=AE (St.mk · g.next) (N4 rfl rfl rfl rfl rfl rfl λn=>rfl)
def iD(l):(U g).set 5 (.D1 l)=U {g with made:=l}:=AE (St.mk · g.next) (N4 rfl rfl rfl rfl rfl rfl λn=>rfl)
def G7(h:g.BD.length<lim):Ae T3 (n+1) 25 [.ref 2,t] (U g)=some (.none,U {g with BD:=g.BD++[t]}):=by show Lj ?r ?r (AI (D3 (G' rfl ?r rfl ?_)) ?r);show(?_:(if _<lim then _ else _)=_);show J (AG h) ?_;rewrite[iC];rfl
def TN(h:g.vars.length<lim):Ae T3 (n+1) 24 [.ref 2,.str s,C0 H] (U g)=some (.int g.vars.length,U {g with vars:=g.vars++[(s,H)]}):=by
 have a:Hy (g.vars++[(s,H)])=Hy g.vars++[.tup [.str s,C0 H]]:=by unfold Hy;show J C8 ?_;rfl
 have b:(Hy g.vars).length=g.vars.length:=by unfold Hy;rw[Al]
 show F0 ?r ?r (AI (T:=U _) (D3 (G' rfl ?r rfl ?_)) (Ap (BL (BA rfl ?r ?_))));·show(?_:(if _<lim then _ else _)=_);show J b (J (AG h) (Mine.AU a ?_));rewrite[iB];rfl
 ·show(?_:some _=_);show J a (J Bp (J b ?_));simp
end
end
end
section
mutual
open A
variable{n:Nat}{g L:GS}
def Ax(g:GS)(k:Nat):Prop:=6<=k/\∀m l,g.part=some (m,l)->m<k
def Ax.at(h:Ax g k)(b:k<=m):Dn g m=g.other m:=by show AV h λc d=>?_;obtain⟨j,rfl⟩:∃j,m=j+6:=⟨_,OM (AQ c b)⟩;show(?_:Cr g _=_);unfold Cr;cases e:g.part with|none=>rfl|some q=>obtain⟨a,l⟩:=q;have:=d a l e;dsimp only;show J (AF (Dd (AZ this b))) rfl
def WG{g:GS}{p:Option (Nat×List V)}{o:Nat->Option A'}{n i:Nat}(a:i≠1\/Fd g.part=Fd p)(j:Cr g i=Cr ⟨g.vars,g.BD,g.made,p,o,n⟩ i):Dn g i=Dn ⟨g.vars,g.BD,g.made,p,o,n⟩ i:=match i,a,j with|0,_,j=>j|1,h,_=>h.elim (λh=>absurd rfl h) λh=>AE (λv=>some (A'.inst 2 [(7,.ref 2),(8,.ref 5),(0,v)])) h|2,_,_=>rfl|3,_,_=>rfl|4,_,_=>rfl|5,_,_=>rfl|_+6,_,j=>j
def gV{w:_->_}(a:m<k):Cr L m=Cr {L with other:=λm=>if m<k then L.other m else w m} m:=by unfold Cr;dsimp only;show J (AG a) rfl
def RR(h:Ax g g.next)(b:Ax L g.next):(U g).pop (U L)=U {L with other:=λm=>if m<g.next then L.other m else g.other m}:=by
 delta U St.pop;congr 1;funext m;dsimp only;by_cases a:m<g.next;·show J (AG a) (WG (.inr rfl) (gV a))
 ·show J (AF a) (J (h.at (DP a)) ?_);have:=Ax.at (g:={L with other:=λm=>if m<g.next then L.other m else g.other m}) b (DP a);show J this ?_;dsimp only;show J (AF a) rfl
def EV(h:Ax g g.next)(b:Ax L g.next)(c:∀m,m<g.next->L.other m=g.other m):(U g).pop (U L)=U {L with other:=g.other}:=by
 show J (RR h b) ?_;congr 2;funext m;by_cases a:m<g.next;·show J (AG a) (J (c m a) rfl)
 ·show J (AF a) rfl
def HB(k)(h:QI B n w D (U g) k M=some (M,v,(U g).pop (U L)))(o:A0 M)(a:Ax g g.next)(b:L.other=g.other)(c:L.part=g.part):Ae B (n+1) w D (U g)=some (v,U L):=C3 k h o ((EV a ⟨a.1,λm l e=>a.2 m l (c▸e)⟩ λm _=>Ga b m).trans (Mine.AU b rfl))
end
end
section
mutual
open A
variable{n:Nat}{g L:GS}
def Tr(b:f.objs m=some (.D1 z))(a:Cf c=some k):BZ.J8 f c (.ref m)=some (BK z k).isSome:=b1 b (m1 a rfl)
def a9(b:f.objs m=some (.D1 z))(a:Cf d=some k)(c:BK z k=some E):BZ.J8 f d (.ref m)=some true:=J (Tr b a) (J c rfl)
def a'(b:f.objs m=some (.D1 z))(a:Cf d=some k)(c:BK z k=none):BZ.J8 f d (.ref m)=some false:=J (Tr b a) (J c rfl)
def d9(b:f.objs m=some (.D1 z))(a:Cf d=some k)(c:BK z k=some v):DT f (.ref m) d=some v:=b1 b (b1 a c)
def fz(a:Cf c=some k)(b:BK g.made k=some E):BZ (U g) .FE c (.ref 5)=some false:=m1 (a9 rfl a b) rfl
def f3(a:Cf c=some k)(b:BK g.made k=none):BZ (U g) .FE c (.ref 5)=some true:=m1 (a' rfl a b) rfl
def Vl(a:Cf c=some k)(b:BK g.made k=some E):DT (U g) (.ref 5) c=some E:=d9 rfl a b
def Pm(b:Ax g g.next)(a:Cf d=some k)(c:BK g.made k=some E):Ae T3 (n+1) 49 [.ref 1,d,C0 H] (U g)=some (.tup [E,.bool false],U g):=C3 [] ?r (.cmp (fz a c)<|.idx (Vl a c) .nil) (EV b b λ_ _=>rfl)
open Classical in
def Nh{j:CV×V}{z:List (CV×V)}{k:CV}(h:j.1=k):BK (j::z) k=some j.2:=Lm (p:=λj:CV×V=>decide (j.1=k)) (BC h)
open Classical in
def KO{j:CV×V}{z:List (CV×V)}{k:CV}(h:¬j.1=k):BK (j::z) k=BK z k:=Ll (p:=λj:CV×V=>decide (j.1=k)) (Bz h)
open Classical in
def Ng(z:List (CV×V))(k:CV)(v:V):BK (putC z k v) k=some v:=by induction z with|nil=>show Nh rfl|cons e z a=>show iG (G:=λl=>BK l k=some v) (λh=>Nh h) λh=>(KO h).trans a
def bh{i:Nat}(h:AD P a e f=some (.int i,T))(b:i<lim):AD P (.KN c a) e f=some (.str (Str.empty++c++Str.ofString (toString (i:Int))),T):=b1 h (b1 rfl (AG ⟨Co i,Iy.mpr b⟩))
noncomputable def nameOf(i:Nat):Str:=Str.empty++Str.ofString "#"++Str.ofString (toString (i:Int))
def fL(a:Cf c=some k)(b:g.made.length<lim):F9 (U g) (.ref 5) c v=some (U {g with made:=putC g.made k v}):=b1 (o:=Cf _) a ((AG b).trans (AE _ (iD _)))
def M7(c:Ax g g.next)(a:Cf f=some k)(e:BK g.made k=none)(b:g.vars.length<lim)(d:g.made.length<lim):Ae T3 (n+2) 49 [.ref 1,f,C0 H] (U g)=some (.tup [.int g.vars.length,.bool true],U {g with vars:=g.vars++[(nameOf g.vars.length,H)],made:=putC g.made k (.int g.vars.length)}):=C3 (T:=U {g with vars:=_,made:=_}) [] ?r (.cmp (f3 a e)<|.ex (bh (B5 rfl ?r ?r ?r (Pq (n:=n))) b)<|.call (TN b)<|.set (fL (g:={g with vars:=_++_}) a d)<|.idx (Vl a (Ng _ _ _)) .nil) (EV c c λ_ _=>rfl)
end
end
mutual
open A
noncomputable def CF:BR->Int|[]=>0|p::_=>p.1
noncomputable def CH(H:BR):Int:=match H.getLast? with|none=>0|some p=>p.2
noncomputable def Aw(p:Int×Int):V:=.tup [.int p.1,.int p.2]
end
section
mutual
open A
variable{n:Nat}{g L:GS}{f:St}
def RK(h:0<k):place k (-1)=some (k-1):=by cases k with|zero=>show absurd h (HU 0)|succ k=>show rfl.trans ((AG (Jq (Jr.mpr (Ay 1 k)))).trans (AE _ ((AE _ (by simp+arith)).trans (Int.toNat_natCast k))))
def VE(h:u.getLast?=some v):DT f (.tup u) (.int (-1))=some v:=by show(?_:(place _ _).bind _=_);(show J (RK (by cases u with|nil=>show AS h|cons _ _=>show GV _)) ?_;show Mine.AU h ?_;show J List.getLast?_eq_getElem? ?_);rfl
def TL{H:BR}(h:H≠[]):Ae T3 (n+1) 10 [C0 H] f=some (.int (CF H),f):=by cases H with|nil=>show absurd rfl h|cons p H=>show F0 ?r ?r (Ap (BL (BM (BM ?r ?r (Gg (x:=0) ?r)) ?r rfl)))
def Z8{H:BR}(h:H≠[]):Ae T3 (n+1) 4 [C0 H] f=some (.int (CH H),f):=by cases a:H.getLast? with|none=>show absurd (List.getLast?_eq_none_iff.mp a) h|some p=>show J (by unfold CH;(show J a ?_;rfl):CH H=p.2) ?_;show F0 ?r ?r (Ap (BL (BM (BM ?r ?r (VE (by(show J List.getLast?_map ?_;show J a ?_);rfl))) ?r rfl)))
end
end
mutual
open A
noncomputable def Ad(g:GS)(x:Nat):BR:=match g.vars[x]? with|some p=>p.2|none=>[]
noncomputable def Eo(a:List (Nat×Int)):List V:=a.map λp=>.tup [.int p.1,.int p.2]
def Bc(g:GS):List (Nat×Int)->Int->Int->Int×Int|[],lo,b=>(lo,b)|(x,a)::c,lo,b=>Bc g c (lo+min (a*CF (Ad g x)) (a*CH (Ad g x))) (b+max (a*CF (Ad g x)) (a*CH (Ad g x)))
def Cm(g:GS)(a:List (Nat×Int)):Prop:=∀p∈a,Ad g p.1≠[]/\IntMulOk p.2 (CF (Ad g p.1))/\IntMulOk p.2 (CH (Ad g p.1))
end
section
mutual
open A
variable{n:Nat}{g L:GS}{f:St}
def P8(h:Ad g x≠[]):∃s,g.vars[x]?=some (s,Ad g x):=by unfold Ad at h⊢;cases a:g.vars[x]? with|none=>replace h:=a▸h;show absurd rfl h|some p=>show⟨_,rfl⟩
def LU(h:Ad g x≠[]):Ae T3 (n+1) 23 [.ref 2,.int x] (U g)=some (C0 (Ad g x),U g):=let⟨_,e⟩:=P8 h;Z2 e
def F6(h:IntMulOk a b):Cc f .mul (.int a) (.int b)=some (.int (a*b)):=AG h
def Zr:∀(b)(e)(lo c),Cm g b->e 42=some (.ref 1)->e 4=some (.int lo)->e 5=some (.int c)->∀{i:Prop},(∀d,Cw (λx e f=>(BP (.tup [.nm 22,.nm 17]) x e).bind λe=>Ao (AN T3 (n+1)) (ES Sb 2) e f) none (Eo b) e (U g)=some (.next,d,U g)->d 4=some (.int (Bc g b lo c).1)->d 5=some (.int (Bc g b lo c).2)->i)->i:=by intro b;induction b with|nil=>intro e lo c o o j l;showλm=>m e rfl j l|cons o b t=>obtain⟨x,a⟩:=o;intro e lo c q k j l i;intro m;show BG (q _ AR) λh r s=>?_;dsimp only at h r s;have call:∀(e),e 42=some (.ref 1)->_->AD (AN T3 (n+1)) (.Af (.attr (.var 42) 7) 3 [.var 22]) e (U g)=_:=λe v w=>B5 (IG (AH v) ?r ?r) ?r ?r (AL (AH w) ?r) (LU h);show t (upd (upd (upd (upd (upd e 22 (.int x)) 17 (.int a)) 53 (.tup [.int (a*CF (Ad g x)),.int (a*CH (Ad g x))])) 4 _) 5 _) _ _ (λp y=>q p (Ah _ y)) k rfl rfl λd u z A=>m d (b1 (a:=(.next,_,_)) ?_ (by dsimp only;show J (AG (by trivial)) ?_;show u)) z A;show b1 (a:=upd (upd e 22 (.int x)) 17 (.int a)) ?r (AI (AC:=upd (upd (upd e 22 (.int x)) 17 (.int a)) 53 _) (Az (CI (AL (BA (AH ?r) (BI (AL (call _ k ?r) ?r) (TL h)) (F6 r)) (AL (BA (AH ?r) (BI (AL (call _ k ?r) ?r) (Z8 h)) (F6 s)) ?r))) ?r) (AI (Az (CI (AL (BA (AH j) rfl ?r) (AL (BA (AH l) rfl ?r) ?r))) ?r) ?r))
def LS(b:Ax g g.next)(h:Ae T3 (n+2) 19 [W] (U g)=some (C7 a c,U g))(d:Cm g a):Ae T3 (n+3) 48 [.ref 1,W] (U g)=some (.tup [.int (Bc g a c c).1,.int (Bc g a c c).2],U g):=Zr a (upd (upd (upd _ 35 _) 4 _) 5 _) c c d rfl rfl rfl λk e i j=>C3 [] ?r (.call h<|.st (Ea ?r e)<|.var i<|.var j .nil) (EV b b λ_ _=>rfl)
end
end
section
mutual
open A
variable{n:Nat}{g L:GS}{f:St}
def eu(h:a<=b):BZ f .le (.int a) (.int b)=some true:=AE _ (BC h)
def e8(h:¬a<b):BZ f .lt (.int a) (.int b)=some false:=AE _ (Bz h)
def QM(h:b<a):BZ f .gt (.int a) (.int b)=some true:=AE _ (BC h)
def U2(h:¬b<a):BZ f .gt (.int a) (.int b)=some false:=AE _ (Bz h)
def LV(h:lo<=a):Ae T3 (n+1) 16 [.int lo,.int a] f=some (C0 [(lo,a)],f):=F0 ?r ?r (Ap (BL (E6 (Aq ?r ?r (eu h)) ?r ?r)))
noncomputable def sumK(a:List (Nat×Int))(c:Int):CV:=.tup [.str "sum",.tup (a.map λp=>.tup [.int p.1,.int p.2]),.int c]
def af(H):∀a:List (Nat×_),E4 (H+1) (a.map λp=>V.tup [.int p.1,.int p.2])=some (a.map λp=>CV.tup [.int p.1,.int p.2]):=by intro a;induction a with|nil=>show rfl|cons p a b=>show(?_:b2 (G8 (H+1) (V.tup [.int p.1,.int p.2])) (E4 _ _) _=_);show J b rfl
def Rt(a)(c):Cf (C7 a c)=some (sumK a c):=by
 show(?_:(b2 (G8 5 (.str _)) (E4 5 _) _).map _=_);have b:E4 5 [.tup (a.map λp=>V.tup [.int p.1,.int p.2]),.int c]=some [.tup (a.map λp=>CV.tup [.int p.1,.int p.2]),.int c]:=by show(?_:b2 _ _ _=_);show J (by show(?_:(E4 4 _).map _=_);rw[af 3];rfl:G8 5 (.tup (a.map λp=>V.tup [.int p.1,.int p.2]))=some (.tup (a.map λp=>CV.tup [.int p.1,.int p.2]))) ?_;rfl
 show J b rfl
end
end
noncomputable def single(b:List (Nat×Int))(c:Int):Option Nat:=match b with|[(x,a)]=>if a=1/\c=0 then some x else none|_=>none
section
mutual
open A
variable{n:Nat}{g L:GS}{f:St}
def Ua(h:a=b):BZ f .eq (.int a) (.int b)=some true:=AE _ (A5.mpr h)
def NU(h:¬a=b):BZ f .eq (.int a) (.int b)=some false:=AE _ (I9.mpr h)
def KC(h:GW P z e f=some r):AD P (.and z) e f=some r:=h
def NQ(h:Hr P z e f=some r):AD P (.or z) e f=some r:=h
def I7(h:AD P j e f=some (v,T))(a:Bb T v=some false):GW P (j::b::z) e f=some (v,T):=b1 h (b1 a rfl)
def J0(h:AD P j e f=some (v,T))(c:Bb T v=some true)(b:GW P (a::z) e T=some r):GW P (j::a::z) e f=some r:=b1 h (b1 c b)
def RC(h:AD P j e f=some (v,T))(a:Bb T v=some true):Hr P (j::b::z) e f=some (v,T):=b1 h (b1 a rfl)
def RB(h:AD P j e f=some (v,T))(c:Bb T v=some false)(b:Hr P (a::z) e T=some r):Hr P (j::a::z) e f=some r:=b1 h (b1 c b)
def Wt{P:Pg}{e:Env}{b:List (Nat×Int)}{c:Int}(h:e 35=some (C7 b c))(i:single b c=none):GW P [.cmp .eq (.bi .len [.idx (.var 35) (.int 1)]) (.int 1),.cmp .eq (.idx (.idx (.idx (.var 35) (.int 1)) (.int 0)) (.int 1)) (.int 1),.cmp .eq (.idx (.var 35) (.int 2)) (.int 0)] e (U g)=some (.bool false,U g):=by cases b with
 |nil=>show HA (b:=.and _) [] ?r (.var h .nil)
 |cons p r=>cases r with|nil=>
   by_cases a:p.2=1;·show HA (b:=.and _) [] ?r (.var h<|.var h<|.cmp (Ua a)<|.var h<|.cmp (NU λd=>Ce ((AG ⟨a,d⟩:single [p] c=some p.1).symm.trans i)) .nil)
   ·show HA (b:=.and _) [] ?r (.var h<|.var h<|.cmp (NU a) .nil)|cons q r=>show HA (b:=.and _) [] ?r (.var h<|.cmp (NU (a:=((((p::q::r).map λp=>V.tup [.int p.1,.int p.2]).length:Nat):Int)) λh=>Nat.noConfusion (Ew (Ec h))) .nil)
def aM(a:Ax g g.next)(b:Ae T3 (n+2) 19 [W] (U g)=some (C7 [(x,1)] 0,U g)):Ae T3 (n+3) 57 [.ref 1,W] (U g)=some (.int x,U g):=C3 [] ?r (.call b .nil) (EV a a λ_ _=>rfl)
def aJ(b:Ax g g.next)(i:Ae T3 (n+3) 19 [W] (U g)=some (C7 a c,U g))(d:single a c=none)(h:Cm g a)(e:(Bc g a c c).1<=(Bc g a c c).2)(j:BK g.made (sumK a c)=some E):Ae T3 (n+4) 57 [.ref 1,W] (U g)=some (E,U g):=C3 [] ?r (.call i<|.ex (KC (Wt ?r d))<|.call (LS b (Ro _ _) h)<|.call (LV e)<|.call (Pm b (Rt _ _) j) .nil) (EV b b λ_ _=>rfl)
end
end
noncomputable def Wh(k:String)(a:List Int)(u:List Nat)(c:Int):V:=.tup [.str (Str.ofString k),.tup (a.map V.int),.tup (u.map λ(x:Nat)=>V.int x),.int c]
section
mutual
open A
variable{n:Nat}{g L:GS}{f:St}{P:Pg}{e:Env}
def ax(h:e 35=some (C7 b c))(i:b.length<lim):AD P (.comp (.var 17) [.mk (.tup [.nm 23,.nm 17]) (.val (.idx (.var 35) (.int 1))) []] [23,17,115]) e f=some (.lst ((b.map (·.2)).map V.int),f):=by have:=NP (b:=.var 17) (r:=[23,17,115]) (h:=λv=>match v with|.tup [_,a]=>a|_=>.none) (EC (BM (AH h) ?r rfl) ?r:C2 P (.val (.idx _ (.int 1))) e f=some (Eo b,_,f)) (p:=.tup [.nm 23,.nm 17]) (λx d=>by show AJ (Ar.mp d) λp k j=>?_;clear d;obtain rfl:=j;show⟨_,by rfl,by rfl⟩) (by unfold Eo;rw[Al];show i);show J this (J Bj (J Bj rfl))
def a7(h:e 35=some (C7 b c))(i:b.length<lim):AD P (.comp (.var 23) [.mk (.tup [.nm 23,.nm 17]) (.val (.idx (.var 35) (.int 1))) []] [23,17,115]) e f=some (.lst ((b.map (·.1)).map λ(x:Nat)=>V.int x),f):=by have:=NP (b:=.var 23) (r:=[23,17,115]) (h:=λv=>match v with|.tup [a,_]=>a|_=>.none) (EC (BM (AH h) ?r rfl) ?r:C2 P (.val (.idx _ (.int 1))) e f=some (Eo b,_,f)) (p:=.tup [.nm 23,.nm 17]) (λx d=>by show AJ (Ar.mp d) λp k j=>?_;clear d;obtain rfl:=j;show⟨_,by rfl,by rfl⟩) (by unfold Eo;rw[Al];show i);show J this (J Bj (J Bj rfl))
end
end
section
mutual
open A
variable{n:Nat}{g L:GS}{f:St}
def withVar(g:GS)(a:CV)(H:BR):GS:={g with vars:=g.vars++[(nameOf g.vars.length,H)],made:=putC g.made a (.int g.vars.length)}
noncomputable def CU(g:GS)(t:V):GS:={g with BD:=g.BD++[t]}
def and_1(h:AD P j e f=some r):GW P [j] e f=some r:=h
def aK(d:Ax g g.next)(s:Ae T3 (n+3) 19 [W] (U g)=some (C7 b c,U g))(m:single b c=none)(k:b≠[])(r:Cm g b)(o:(Bc g b c c).1<=(Bc g b c c).2)(t:BK g.made (sumK b c)=none)(u:g.vars.length<lim)(l2:g.made.length<lim)(v:g.BD.length<lim)(i:b.length+1<lim):Ae T3 (n+4) 57 [.ref 1,W] (U g)=some (.int g.vars.length,U (CU (withVar g (sumK b c) [(Bc g b c c)]) (Wh "linear_eq" (b.map (·.2)++[-1]) (b.map (·.1)++[g.vars.length]) (-c)))):=by
 have q:BZ (U (withVar g (sumK b c) [(Bc g b c c)])) .ne (.tup (b.map λp=>.tup [.int p.1,.int p.2])) (.tup [])=some true:=by cases b with|nil=>show absurd rfl k|cons p b=>rfl
 have j:∀{w}(e)(h)(a:w),Cc (U (withVar g (sumK b c) [(Bc g b c c)])) .add (.lst ((b.map h).map e)) (.lst [e a])=_:=λe h a=>(AG (by rw[Al,Al];show i)).trans (AE (λl=>some _) (C8 (l₂:=[a])).symm);show C3 (T:=U (CU (withVar g (sumK b c) [(Bc g b c c)]) _)) [] ?r (.call s<|.ex (KC (Wt ?r m))<|.call (LS d (Ro _ _) r)<|.call (LV o)<|.call (M7 d (Rt _ _) t u l2)<|.cmp q<|.ex (ax ?r (GU i))<|.bin (j _ _ _)<|.ex (a7 ?r (GU i))<|.bin (j _ _ _)<|.call (G7 (g:=withVar g _ _) (t:=Wh _ _ _ _) v) .nil) (EV d d λ_ _=>rfl)
def aI(a:Ax g g.next)(d:Ae T3 (n+3) 19 [W] (U g)=some (C7 [] c,U g))(e:BK g.made (sumK [] c)=none)(h:g.vars.length<lim)(l2:g.made.length<lim):Ae T3 (n+4) 57 [.ref 1,W] (U g)=some (.int g.vars.length,U (withVar g (sumK [] c) [(c,c)])):=C3 (T:=U (withVar g _ _)) [] ?r (.call d<|.call (LS a (rfl:Ae T3 (n+2) 19 [C7 [] c] _=_) λp b=>by cases b)<|.call (LV (BB c))<|.call (M7 a (Rt [] c) e h l2) .nil) (EV a a λ_ _=>rfl)
end
end
mutual
open A
noncomputable def gs(F:Nat->Int->Int):List (Nat×Int)->Int|[]=>0|p::a=>F p.1 p.2+gs F a
noncomputable def ev(v:Nat->Int)(b:List (Nat×Int)):Int:=gs (λx a=>a*v x) b
noncomputable def DX(b:List (Nat×Int)):Int:=gs (λc a=>a.natAbs) b
noncomputable def keys(a:List (Nat×Int)):List Nat:=a.map λp=>p.1
noncomputable def Ak:List (Nat×Int)->Nat->Int|[],_=>0|p::a,x=>if p.1=x then p.2 else Ak a x
noncomputable def putD:List (Nat×Int)->Nat->Int->List (Nat×Int)|[],x,a=>[(x,a)]|p::b,x,a=>if p.1=x then(p.1,a)::b else p::putD b x a
noncomputable def Hi(w:Int):List (Nat×Int)->List (Nat×Int)->List (Nat×Int)|D,[]=>D|D,p::a=>Hi w (putD D p.1 (Ak D p.1+w*p.2)) a
noncomputable def encD(I:List (Nat×Int)):List (SK×V):=I.map λp=>(SK.num p.1,V.int p.2)
def Q9{x A:Nat}:(SK.num x=SK.num A)=(x=A):=propext ⟨λh=>by injection h with h;show Ec h,λh=>J h rfl⟩
def OF(x:Nat)(a):∀I,DZ (encD I) (.num x) (.int a)=encD (putD I x a):=by intro I;induction I with|nil=>show rfl|cons p c b=>
  show(?_:(if SK.num p.1=SK.num x then(SK.num p.1,V.int a)::encD c else _)=encD (if p.1=x then _ else _));show J b ?_;by_cases h:p.1=x;·show J (AG h) (J (AG (J h rfl)) rfl)
  ·(show J (AF h) ?_;show J (AF (by show J Q9 ?_;show h)) ?_);rfl
def Ni(x:Nat):∀I,(DA (encD I) (.num x)).getD (.int 0)=.int (Ak I x)/\(x∈keys I->DA (encD I) (.num x)=some (.int (Ak I x))):=by intro I;induction I with|nil=>show⟨rfl,λh=>by cases h⟩|cons p c a=>
  have d:Ak (p::c) x=if p.1=x then _ else _:=rfl;(show J (by
    unfold DA encD;show J Fq (J List.find?_cons ?_);by_cases h:p.1=x;·show J (AG h) ?_;show J (BC (J h rfl)) ?_;rfl
    ·show J (AF h) ?_;(show J (Bz (by show J Q9 ?_;show h)) ?_;rfl):DA (encD (p::c)) (.num x)=if p.1=x then some (.int p.2)else DA (encD c) (.num x)) ?_;show J d ?_);by_cases h:p.1=x;·show J (AG h) (J (AG h) ⟨rfl,λe=>rfl⟩)
  ·show J (AF h) (J (AF h) ⟨(a).1,λb=>(a).2 ?_⟩);clear a;cases b with|head=>show absurd rfl h|tail _ b=>show b
def U1(c:∀x,F x 0=0)(x)(a):∀I,gs F (putD I x a)=gs F I+(F x a-F x (Ak I x)):=by intro I;induction I with|nil=>show(?_:F x a+0=0+(_-F x 0));rw[c];show by simp+arith|cons p d b=>
  show(?_:gs F (if p.1=x then _ else _)=_+_+(_-F x (if p.1=x then _ else _)));by_cases h:p.1=x;·show J (AG h) (J (AG h) (?_:_+_=_));show J h (by simp+arith)
  ·show J (AF h) (J (AF h) (?_:_+_=_));show J b (by simp+arith) 
def KX(x)(a):∀I,keys (putD I x a)=if x∈keys I then keys I else keys I++[x]:=by intro I;induction I with|nil=>show rfl|cons p c d=>
  show(?_:keys (if p.1=x then _ else _)=if x∈p.1::keys c then p.1::keys c else p.1::keys c++_);by_cases h:p.1=x;·show J (AG h) (J (AG (J h AR)) rfl)
  ·show J (AF h) (?_:p.1::keys _=_);show J d ?_;by_cases b:x∈keys c;·show J (AG b) (J (AG (Ah _ b)) rfl)
   ·(show J (AF b) ?_;show J (AF (by intro q;cases q with|head=>show h rfl|tail _ q=>show b q)) ?_);rfl
def V5(h:(keys I).Nodup):(keys (putD I x a)).Nodup:=by
 rw[KX];by_cases b:x∈keys I;·show J (AG b) ?_;show h
 ·show J (AF b) ?_;show List.nodup_append.mpr ⟨h,by simp,by intro y c z d e;replace e:=As.mp d▸e;show b (e▸c)⟩
def Qx(h:A∈keys (putD I x a)):A∈keys I\/A=x:=by
 rw[KX]at h;by_cases b:x∈keys I;·rw[AG b]at h;show .inl h
 ·rw[AF b]at h;show(Cp.mp h).imp id As.mp
def Vc(x)(a)(I):(putD I x a).length<=I.length+1:=by
 have e:_=(keys (putD I x a)).length:=(Al ..).symm;have b:(keys I).length=_:=Al ..;show J e ?_;rewrite[KX];by_cases c:x∈keys I;·show J (AG c) (J b (A1 _))
 ·show J (AF c) (J Bp (J b (Ag _)))
def Nb(w):∀(b I),(keys I).Nodup->(keys (Hi w I b)).Nodup/\(∀A,A∈keys (Hi w I b)->A∈keys I\/A∈keys b)/\(Hi w I b).length<=I.length+b.length/\(∀v,ev v (Hi w I b)=ev v I+w*ev v b)/\DX (Hi w I b)<=DX I+w.natAbs*DX b:=by intro b;induction b with|nil=>intro I h;show⟨h,λA c=>.inl c,Ag _,λv=>(by simp+arith:ev v I=ev v I+w*0),(by simp+arith:DX I<=DX I+w.natAbs*0)⟩|cons p b d=>
  intro I h;show HG (d _ (V5 h)) λf g h3 i j=>⟨f,λA c=>?_,?_,λv=>?_,?_⟩
  ·rcases g A c with q|q;·show(Qx q).imp id λq=>by show J q ?_;show AR
   ·show .inr (Ah _ q)
  ·have:=Vc p.1 (Ak I p.1+w*p.2) I;show AQ h3 (J B9 (lf this (by simp+arith)))
  ·have e:ev v (p::b)=_*_+ev v b:=rfl;(show J (i v) ?_;show J (by unfold ev;rw[U1 (F:=λx a=>a*_) λx=>Int.zero_mul _,Int.add_mul];show by simp+arith:ev v (putD I p.1 (Ak I p.1+w*p.2))=ev v I+w*p.2*v p.1) ?_;show J e ?_;rewrite[Int.mul_add,Int.mul_assoc,Int.add_assoc];rfl)
  ·have e:DX (p::b)=p.2.natAbs+DX b:=rfl;show J e ?_;rewrite[Int.mul_add];show BE j<|Aa (by
    unfold DX;rw[U1 λx=>rfl];have:=Int.natAbs_add_le (Ak I p.1) (w*p.2);rw[Int.natAbs_mul]at this;have:(Ak I p.1+w*p.2).natAbs<=(Ak I p.1).natAbs+(w.natAbs:Int)*p.2.natAbs:=by exact_mod_cast this
    show Aa this (by simp+arith):DX (putD I p.1 (Ak I p.1+w*p.2))<=DX I+w.natAbs*p.2.natAbs) (by simp+arith) 
def EF(I:List (Nat×Int)):List (Nat×Int):=((sortI (I.map λp=>(p.1:Int))).filter λi=>decide (Ak I i.toNat≠0)).map λi=>(i.toNat,Ak I i.toNat)
noncomputable def MU(F:Int->Int):List Int->Int|[]=>0|i::a=>F i+MU F a
def i6(h:u.Perm ys):MU F u=MU F ys:=by induction h with|nil=>rfl|cons x _ c=>show(?_:F x+_=_+_);(show J c ?_;rfl)|swap x y l=>show(?_:F y+(_+_)=_+(_+_));show by simp+arith|trans _ _ a b=>(show J a ?_;show J b ?_;rfl)
def dn:∀(I)(G:_->_),(keys I).Nodup->(∀x∈keys I,G x=Ak I x)->MU (λi=>F i.toNat (G i.toNat)) (I.map λp=>p.1)=gs F I:=by intro I;induction I with|nil=>intro c c c;show rfl|cons p h d=>intro G g a;show AV (DO.mp g) λe f=>(?_:F p.1 (G p.1)+_=_+_);(show J ((a _ AR).trans (AG rfl)) ?_;show J (d G f λx b=>(a x (Ah _ b)).trans (AF λq=>e (by subst q;show b))) ?_;rfl)
def dk(b:∀x,F x 0=0)(I):∀p:_,gs F ((p.filter λi=>decide (Ak I i.toNat≠0)).map λi=>(i.toNat,Ak I i.toNat))=MU (λi=>F i.toNat (Ak I i.toNat)) p:=by intro p;induction p with|nil=>show rfl|cons i p a=>
  show J GO (?_:_=F _ _+_);show Mine.AU a ?_;by_cases h:Ak I i.toNat=0;·(show J (AF (by show J Lb ?_;showλq=>q h)) ?_;show J h ?_;rewrite[b]);show by simp+arith
  ·show J (AG (J Lb h)) ?_;rfl
def WJ(a:∀x,F x 0=0)(b:(keys I).Nodup):gs F (EF I)=gs F I:=by unfold EF;(rewrite[dk a];show J (i6 (sortI_perm _)) ?_);show dn I _ b λc c=>rfl
def RD(e:(keys I).Nodup):(∀v,ev v (EF I)=ev v I)/\DX (EF I)=DX I/\(keys (EF I)).Nodup/\(∀x∈keys (EF I),x∈keys I)/\(∀p∈EF I,p.2≠0)/\(EF I).length<=I.length:=by
 show⟨λv=>WJ (F:=λx a=>a*_) (λx=>Int.zero_mul _) e,WJ (λh=>rfl) e,?_,λx g=>?_,λp d=>?_,?_⟩
 ·skip;have f:=by have:=(sortI_perm (I.map λp=>p.1)).map Int.toNat;rw[Bj]at this;show this
  show J (by delta keys EF;show J Bj ?_;rfl:keys (EF I)=((sortI (I.map λp=>(p.1:Int))).filter λi=>decide (Ak I i.toNat≠0)).map Int.toNat) ((List.Sublist.map _ List.filter_sublist).nodup (f.nodup_iff.mpr e))
 ·show AJ (Ar.mp g) λp d b=>?_;obtain rfl:=b;show AJ (Ar.mp d) λi c b=>?_;clear d;obtain rfl:=b;show(λi c=>by show AJ (Ar.mp ((sortI_perm _).mem_iff.mp c)) λp d b=>?_;clear c;obtain rfl:=b;show Ar.mpr ⟨p,d,rfl⟩:∀i∈_,i.toNat∈keys I) i (C9.mp c).1
 ·show AJ (Ar.mp d) λi c b=>?_;obtain rfl:=b;show A9 (C9.mp c).2
 ·unfold EF;rw[Al];show AQ (H9 _ _) (by(show J (sortI_perm _).length_eq ?_;rewrite[Al]);show Ag _)
noncomputable def St.bump(f:St):St:=⟨f.objs,f.next+1⟩
set_option genInjectivity true in
inductive Val where
 |int (i:Int)
 |sum (ps:List (Nat×Int)) (c:Int)
 |bit (x:Nat) (s:Bool)
 |bool (b:Bool)
def Val.toV:Val->V|.int i=>.int i|.sum ps c=>C7 ps c|.bit x s=>Hb x s|.bool b=>.bool b
noncomputable def Val.ps:Val->List (Nat×Int)|.sum ps _=>ps|.bit x true=>[(x,1)]|.bit x false=>[(x,-1)]|_=>[]
def Val.c:Val->Int|.int i=>i|.sum _ c=>c|.bit _ s=>if s then 0 else 1|.bool b=>Bu b
noncomputable def MB(a:List (Nat×Int))(c:Int):Val:=match a with|[]=>.int c|p::r=>.sum (p::r) c
def Bl(a b:Val)(w:Int):Val:=MB (EF (Hi w a.ps b.ps)) (a.c+w*b.c)
def Q8(a)(c):(MB a c).ps=a:=by cases a<;>rfl
def WD(a)(c):(MB a c).c=c:=by cases a<;>rfl
end
section
mutual
open A
variable{n:Nat}{f:St}{P:Pg}{e:Env}
def ML(f:St)(o:A'):f.pop (f.new o)=f.bump:=by
 delta St.pop St.new St.bump;congr 1;funext m;dsimp only;by_cases h:m<f.next;·show J (AG h) (J (AF (Av h)) rfl)
 ·show J (AF h) rfl
def Rf(f:St)(o I:A'):(f.new o).set f.next I=f.new I:=by
 delta St.set St.new;congr 1;funext m;dsimp only;by_cases h:m=f.next;·show J (AG h) (J (AG h) rfl)
 ·show J (AF h) (J (AF h) (J (AF h) rfl))
def Hq(f:St)(o:A'):(f.new o).objs f.next=some o:=AG rfl
def dd{x:Nat}(h:f.objs k=some (.dict z ep)):E3 f (.ref k) .get [.int x,.int 0]=some ((DA z (.num x)).getD (.int 0),f):=(b1 (La h) rfl:_)
def RV(h:f.objs k=some (.dict z ep)):FQ f (.ref k) .get=true:=(J (La h) rfl:((dictAt f k).map _).isSome=_)
def Rd{k x:Nat}(h:f.objs k=some (.dict z ep))(a:z.length<lim):F9 f (.ref k) (.int x) v=some (f.set k (.dict (DZ z (.num x) v) (ep+1))):=b1 rfl (b1 h (AG a))
def VD{x:Nat}(h:f.objs k=some (.dict z ep))(a:DA z (.num x)=some v):DT f (.ref k) (.int x)=some v:=b1 h a
def Kg(c:AD P o e f=some (a,f))(b:AD P i e f=some (k,f))(d:F9 f a k v=some g):Gl P (.sub o i) v e f=some (e,g):=b1 c (b1 b (m1 d rfl))
def J6:∀w:Val,Ae T3 (n+2) 19 [w.toV] f=some (C7 w.ps w.c,f)|.int i=>i8 i|.sum a c=>Ro a c|.bit x true=>i7 x|.bit x false=>i9 x|.bool b=>by kernel_rfl
def gU:∀a:_,HE (Eo a)=some (encD a):=by intro a;induction a with|nil=>show rfl|cons p a b=>show(?_:(HE _).map _=_);show J b rfl
def hJ:∀{I},x∉keys I->putD I x a=I++[(x,a)]:=by intro I;induction I with|nil=>intro g;show rfl|cons p d b=>intro h;show(?_:(if p.1=x then _ else _)=_);(show J (AF λc=>h (by show Mine.AU c ?_;show AR)) ?_;show J (b λq=>h (Ah _ q)) ?_);rfl
def dY:∀a I:_,(keys (I++a)).Nodup->(encD a).foldl (λz p=>DZ z p.1 p.2) (encD I)=encD (I++a):=by intro a;induction a with|nil=>intro I g;(rw[Bv];rfl)|cons p a d=>
  intro I h;have b:I++p::a=I++[(p.1,p.2)]++a:=by rw[DN];rfl
  show(?_:(encD a).foldl _ (DZ _ (.num _) (.int _))=_);(rewrite[OF];show J (hJ λc=>by unfold keys at h c;rw[C8,List.nodup_append]at h;show h.2.2 _ c _ AR rfl) ?_;show J (d _ (Mine.AU b h)) ?_;show Mine.AU b ?_;rfl)
def dict_parts(c:(keys a).Nodup)(b:a.length<lim):Cb f .dict [.tup (Eo a)]=some (.ref f.next,f.new (.dict (encD a) 0)):=by show(?_:(HE (Eo a)).bind _=_);rw[gU];have:(Eo a).length=_:=Al ..;show(?_:(if _<lim then _ else _)=_);show J this (J (AG b) ?_);unfold HC;have:=dY a [] c;show J this ?_;rfl
def gp:∀(c I)(ep)(e),e 15=some (.ref f.next)->e 14=some (.int w)->(∀p∈c,IntMulOk w p.2)->I.length+c.length<lim->∀{h:Prop},(∀g j,Cw (λx e f=>(BP (.tup [.nm 22,.nm 17]) x e).bind λe=>Ao (AN T3 n) (ES Sh 2) e f) none (Eo c) e (f.new (.dict (encD I) ep))=some (.next,g,f.new (.dict (encD (Hi w I c)) j))->(∀i,i≠22->i≠17->g i=e i)->h)->h:=by intro c;induction c with|nil=>intro I ep e b b b b;showλm=>m e ep rfl λb b b=>rfl|cons b c t=>
  obtain⟨x,a⟩:=b;intro I ep e k q s d h;intro m;(show t (putD I x _) (ep+1) (upd (upd e 22 (.int x)) 17 (.int a)) k q (λp v=>s p (Ah _ v)) (by have:=Vc x (Ak I x+w*a) I;replace d:=B9▸d;show lf this (lf d (by simp+arith))) λg j u y=>?_);have l:=Hq f (.dict (encD I) ep);show m g j (b1 (a:=(.next,_,_)) ?_ (by dsimp only;show J (AG (by trivial)) ?_;show u)) λi o r=>(y i o r).trans ?_
  ·show b1 (a:=upd (upd e 22 (.int x)) 17 (.int a)) ?r (AI (Az (v:=.int (Ak I x+w*a)) (BA (G' (AH k) (RV l) ?r (dd l)) (BA (AH q) rfl (F6 (s _ AR))) ?_) (Kg (AH k) rfl ((Rd l (by unfold encD;rw[Al];show Ai (A2 _ _) d)).trans ?_))) ?r);·show J (Ni x I).1 ?_;rfl
   ·rw[Rf,OF]
  ·unfold upd;show J (AF r) (J (AF o) rfl)
def eg(I):(encD I).map (λj=>HF j.1)=(I.map λp=>p.1).map V.int:=J Bj (J Bj rfl)
def sorted_ints(h:p.length<64):DC (p.map V.int)=some ((sortI p).map V.int):=by unfold DC;(rewrite[Al];show J (AG h) ?_;show J (AG (by rw[DD];intro v a;(show AJ (Ar.mp a) λi c b=>?_;clear a;obtain rfl:=b);rfl)) ?_;rewrite[OU];rfl)
def ih(h:f.objs k=some (.dict (encD I) ep))(b:I.length<64):Cb f .sorted [.ref k]=some (.lst ((sortI (I.map λp=>p.1)).map V.int),f):=by have a:=sorted_ints (p:=I.map λp=>p.1) (by rw[Al];show b);rw[<-eg]at a;show m1 (b1 (b1 h rfl) (m1 a rfl)) rfl
def Zo(a:Int):(! a==0)=decide (a≠0):=decide_not.symm
def gn(h:f.objs k=some (.dict (encD I) ep))(m:e 15=some (.ref k))(o:I.length<64):AD P (.comp (.tup [.var 22,.idx (.var 15) (.var 22)]) [.mk (.nm 22) (.val (.bi .sorted [.var 15])) [.cmp .ne (.idx (.var 15) (.var 22)) (.int 0)]] [22,115]) e f=some (.lst (Eo (EF I)),f):=by
 have q:∀i∈sortI (I.map λp=>p.1),∃x:Nat,i=x/\x∈_:=λi c=>by show AJ (Ar.mp ((sortI_perm _).mem_iff.mp c)) λp s j=>?_;clear c;obtain rfl:=j;show⟨_,rfl,Ar.mpr ⟨p,s,rfl⟩⟩
 have:=bg (b:=.tup [.var 22,_]) (c:=.cmp .ne _ (.int 0)) (p:=.nm 22) (N:=.val (.bi _ [_])) (h:=λv=>match v with|.int i=>.tup [.int i,.int (Ak I i.toNat)]|_=>.none) (t:=λv=>match v with|.int i=>decide (Ak I i.toNat≠0)|_=>false) (EC (Bk (AL (AH m) ?r) (ih h o)) ?r) (λv t=>by show AJ (Ar.mp t) λi c j=>?_;obtain rfl:=j;show AJ (q i c) λx g u=>?_;clear c;obtain rfl:=g;have l:∀d:_,d 15=some (.ref k)->d 22=some (.int x)->AD P _ d f=_:=λd a b=>BM (AH a) (AH b) (VD h ((Ni x I).2 u));have r:(upd (clear e [22,115]) 22 (.int x)) 15=_:=m;show⟨_,_,by rfl,Aq (l _ r ?r) ?r ?r,AE some (Zo _),λw=>CI (AL ?r (AL (l _ r ?r) ?r))⟩) (by(rewrite[Al];show J (sortI_perm _).length_eq ?_;rewrite[Al]);show Br o (by decide));show J this (J List.filter_map (J Bj ?_));delta Eo EF;show J Bj ?_;congr 3;show GP λi c=>AJ (q i (C9.mp c).1) λx g w=>?_;clear c;obtain rfl:=g;rfl
def Pn(a b)(w)(m:(keys a.ps).Nodup)(g:a.ps.length+b.ps.length<64)(u:∀p∈b.ps,IntMulOk w p.2)(t:IntMulOk w b.c):Ae T3 (n+3) 12 [a.toV,b.toV,.int w] f=some ((Bl a b w).toV,f.bump):=by
 have l:∀{k},k<64->k<lim:=λh=>Br h (by decide);let q:=upd (upd (upd (upd (upd (λB=>none) 14 (.int w)) 13 b.toV) 12 a.toV) 12 (C7 a.ps a.c)) 13 (C7 b.ps b.c);let z:=upd q 15 (.ref f.next);show gp (n:=n+2) _ _ 0 z ?r ?r u (l g) λo s i c=>?_;generalize j:Hi w _ _=D at i;have v:=Hq f (.dict (encD D) s);have y:o 15=some (.ref f.next):=(c 15 (by decide) (by decide)).trans ?r;let A:=upd (upd o 6 (.tup (Eo (EF D)))) 47 (.int (a.c+w*b.c));have x:∀{d:St},AD (AN T3 (n+2)) (.ite (.cmp .ne (.var 6) (.tup [])) (.tup [.str "sum",.var 6,.var 47]) (.var 47)) A d=some ((Bl a b w).toV,d):=by intro d;unfold Bl;show J j (?_:AD _ _ (upd _ 47 _) d=_);cases EF D with|nil=>show rfl|_ p r=>show rfl
 have:=DR (w:=12) (D:=[_,_,_]) ?r ?r (AI (AC:=q) (Az (CI (AL (BI rfl (J6 a)) (AL (BI rfl (J6 b)) ?r))) ?r) (AI (Az (Bk rfl (dict_parts m (l (Ai (A2 _ _) g)))) ?r) (AI (Ea rfl i) (AI (Az (CI (AL (Bk (AL (gn v y (Mine.AU j (Ai (Nb w _ _ m).2.2.1 g))) ?r) ?r) (AL (BA (BM (AH ((c 12 (by decide) (by decide)).trans ?r)) ?r rfl) (BA (AH ((c 14 (by decide) (by decide)).trans ?r)) (BM (AH ((c 13 (by decide) (by decide)).trans ?r)) ?r rfl) (F6 t)) ?r) ?r))) ?r) (Ap (BL x))))));show J this ?_;rewrite[ML];rfl
end
end
mutual
open A
noncomputable def B6:Nat->List Int->Nat|f,[]=>f|f,a::b=>B6 (Nat.gcd a.natAbs f) b
def Nc:∀(as)(w),B6 w as∣w/\∀a∈as,(B6 w as:Int)∣a:=by intro as;induction as with|nil=>intro w;show⟨Nat.dvd_refl _,λa h=>by cases h⟩|cons a as e=>intro w;show AV (e _) λd f=>⟨Nat.dvd_trans d (Nat.gcd_dvd_right _ _),λb c=>?_⟩;show mc c (Int.ofNat_dvd_left.mpr (Nat.dvd_trans d (Nat.gcd_dvd_left _ _))) λc=>f b c
def Uv(c:a∈as)(b:a≠0):0<B6 w as:=by show Nat.pos_of_ne_zero λe=>b ?_;have:=(Nc as w).2 a c;replace this:=e▸this;show Int.zero_dvd.mp this
end
section
mutual
open A
variable{n:Nat}{f:St}{P:Pg}{e:Env}
def EG(f:St):f.pop f=f:=by unfold St.pop;cases f with|mk a k=>congr 1;funext m;show ite_self _
def da:∀(k r w:Nat)(e:Env),r<k->e 6=some (.int w)->e 66=some (.int r)->∀{c:Prop},(∀b,Ih (λe f=>MX P (.cmp .gt (.var 66) (.int 0)) e f) (λe f=>Ao P [.assign (.pt (.tup [.nm 6,.nm 66])) (.tup [.var 66,.bin .mod (.var 6) (.var 66)])] e f) k e f=some (.next,b,f)->b 6=some (.int (Nat.gcd w r))->c)->c:=by intro k;induction k with|zero=>showλr w e h=>absurd h (HW _)|succ k l=>intro r w e h d a c g;cases r with|zero=>show g e (b1 (a:=(false,f)) (b1 (Aq (AH a) ?r ?r) ?r) ?r) (by rw[Nat.gcd_zero_right];show d)|succ r=>
   show l (w%(r+1)) (r+1) (upd (upd e 6 (.int (r+1:Nat))) 66 (.int (w%(r+1):Nat))) (AZ (Nat.mod_lt w (GV r)) (G3 h)) ?r ?r λb i j=>g b (b1 (a:=(true,f)) (b1 (Aq (AH a) ?r (QM (Int.natCast_pos.mpr (GV r)))) ?r) (b1 (a:=(Fl.next,upd (upd e 6 (.int (r+1:Nat))) 66 (.int (w%(r+1):Nat)),f)) ?_ i)) ?_;·show AI (Az (CI (AL (AH a) (AL (BA (v:=.int (w%(r+1):Nat)) (AH d) (AH a) (?_:(if((r+1:Nat):Int)=0 then none else some (V.int ((w:Int).fmod ((r+1:Nat):Int))))=_)) ?r))) ?r) ?r;show J (AF (HR (Int.natCast_pos.mpr (GV r)))) (J (O7 _ (Co _)) rfl)
   ·show j.trans (AE (λx:Nat=>some (V.int x)) ((Nat.gcd_comm ..).trans ((Nat.gcd_rec (r+1) w).symm.trans (Nat.gcd_comm ..))))
def Ye(a):(if a<0 then-a else a)=a.natAbs:=by
 by_cases h:a<0;·show(AG h).trans (Int.ofNat_natAbs_of_nonpos (D6 h)).symm
 ·show(AF h).trans (Int.natAbs_of_nonneg (Int.not_lt.mp h)).symm
def Sw(a):Cb f .abs [.int a]=some (.int a.natAbs,f):=AE (λi=>some (_,f)) (Ye a)
def dZ:∀(as)(w:Nat)(e),w<1000000->(∀a∈as,a.natAbs<1000000)->e 6=some (.int w)->∀{d:Prop},(∀c,Cw (λx e f=>(BP (.nm 17) x e).bind λe=>Ao (AN T3 n) (ES Se 1) e f) none (as.map V.int) e f=some (.next,c,f)->c 6=some (.int (B6 w as))->d)->d:=by intro as;induction as with|nil=>intro w e u u g;showλh=>h e rfl g|cons a as m=>
  intro w e j i g d;intro h;have s:Nat.gcd a.natAbs w<1000000:=by
   by_cases k:w=0;·show J k ?_;rewrite[Nat.gcd_zero_right];show i a AR
   ·show Ai (Nat.gcd_le_right _ (Nat.pos_of_ne_zero k)) j
  show da (P:=AN T3 n) (f:=f) 4000000 w _ (upd (upd (upd e 17 (.int a)) 6 _) 66 _) (AZ j (Ay _ _)) ?r ?r λl p t=>m _ l s (λb r=>i b (Ah _ r)) t λc o q=>h c (b1 (a:=(Fl.next,l,f)) ?_ (by dsimp only;show J (AG (by trivial)) ?_;show o)) q;show b1 (a:=upd e 17 _) ?r (AI (Az (CI (AL (Bk rfl (Sw a)) (AL (AH g) ?r))) ?r) (AI p ?r))
def Zz(d:∀a∈as,a.natAbs<1000000):Ae T3 (n+1) 0 [.lst (as.map V.int)] f=some (.int (B6 0 as),f):=by show dZ (n:=n) (f:=f) as 0 (upd (upd (λg=>none) 7 (.lst (as.map V.int))) 6 _) (by decide) d ?r λh b c=>?_;have:=DR (w:=0) (D:=[_]) ?r ?r (AI ?r (AI (Ea ?r b) (Ap (BL (AH c)))));show J this ?_;rewrite[EG];rfl
end
end
mutual
open A
structure Row where
 eq:Bool
 cs:List Int
 xs:List Nat
 c:Int
noncomputable def DV(j:Bool):V:=.str (Str.ofString (if j then"linear_eq"else"linear_le"))
def Row.toV(r:Row):V:=.tup [DV r.eq,.tup (r.cs.map V.int),.tup (r.xs.map λ(x:Nat)=>V.int x),.int r.c]
set_option genInjectivity true in
inductive Gs where
 |so (b:Bool)
 |row (r:Row)
def Gs.toV:Gs->V|.so b=>.bool b|.row r=>r.toV
noncomputable def BY(a:List (Nat×Int)):List Int:=a.map λp=>p.2
noncomputable def dec(j:Bool)(lo a:Int):Option Bool:=match j with|true=>if decide (0<lo)||decide (a<0)then some false else if lo=a then some true else none|false=>if decide (a<=0)||decide (0<lo)then some (decide (a<=0))else none
def Gk(j:Bool)(b:List (Nat×Int))(c:Int):Gs:=if j=true/\-c%B6 0 (BY b)≠0 then .so false else .row ⟨j,(BY b).map λa=>a/B6 0 (BY b),keys b,-c/B6 0 (BY b)⟩
def rowF(j:Bool)(lo a:Int)(d:List (Nat×Int))(c:Int):Gs:=match dec j lo a with|some b=>.so b|none=>Gk j d c
end
section
mutual
open A
variable{n:Nat}{g:GS}{f T:St}{P:Pg}{e:Env}
def bj(b:AD P a e f=some (.int i,T)):AD P (.neg a) e f=some (.int (-i),T):=b1 b rfl
def IH(c:AD P a e f=some (.bool s,f))(d:AD P b e f=some (.bool t,f)):AD P (.or [a,b]) e f=some (.bool (s||t),f):=by cases s with|true=>show RC c ?r|false=>show RB c ?r d
def IF(c:AD P a e f=some (.bool s,f))(d:AD P b e f=some (.bool t,f)):AD P (.and [a,b]) e f=some (.bool (s&&t),f):=by cases s with|true=>show J0 c ?r d|false=>show I7 c ?r
def P1(h:e 35=some (C7 d c))(m:d.length<lim)(l:∀p∈d,AD P b (upd (upd (clear e r) i (.int p.1)) j (.int p.2)) f=some (F p,f)):AD P (.comp b [.mk (.tup [.nm i,.nm j]) (.val (.idx (.var 35) (.int 1))) []] r) e f=some (.lst (d.map F),f):=by have:=NP (p:=.tup [.nm i,.nm j]) (h:=λv=>match v with|.tup [.int x,.int a]=>F (x.toNat,a)|_=>.none) (EC (BM (AH h) ?r rfl) ?r:C2 P (.val (.idx _ (.int 1))) e f=some (Eo d,_,f)) (λx k=>by show AJ (Ar.mp k) λp o q=>?_;clear k;obtain rfl:=q;show⟨_,by rfl,l p o⟩) (by unfold Eo;rw[Al];show m);show J this (J Bj rfl)
def hW(k:e 4=some (.int lo))(c:e 5=some (.int a))(d:e 11=some (DV j)):A8 P (K6.body.getD 1 .fail) e f=some (match dec j lo a with|some b=>(.ret (.bool b),e,f)|none=>(.next,e,f)):=by
 cases j with|false=>
  show BS (Aq (AH d) ?r ?r) ?r (b1 (a:=match dec false lo a with|some b=>(.ret (.bool b),e,f)|none=>(.next,e,f)) (Ov (IH (Aq (AH c) ?r ?r) (Aq (AH k) ?r ?r)) ?r ?_) ?_)
  ·unfold dec;dsimp only;by_cases h:(decide (a<=0)||decide (0<lo))=true;·show J (AG h) (J (AG h) (Ap (BL (Aq (AH c) ?r ?r))))
   ·show J (AF h) (J (AF h) rfl)
  ·cases dec _ lo a<;>rfl|true=>
  show Bq (Aq (AH d) ?r ?r) ?r (b1 (a:=match dec true lo a with|some b=>(.ret (.bool b),e,f)|none=>(.next,e,f)) (Ov (IH (Aq (AH k) ?r ?r) (Aq (AH c) ?r ?r)) ?r ?_) ?_)
  ·unfold dec;dsimp only;by_cases h:(decide (0<lo)||decide (a<0))=true;·show J (AG h) (J (AG h) (Ap (BL (Aq (AH d) ?r ?r))))
   ·show J (AF h) (J (AF h) ?_);by_cases i:lo=a;·show J (AG i) ?_;show b1 (BS (Aq (AH k) (AH c) (Ua i)) ?r (Ap (BL (Aq (AH d) ?r ?r)))) ?r
    ·show J (AF i) ?_;show b1 (Bq (Aq (AH k) (AH c) (NU i)) ?r ?r) ?r
  ·cases dec _ lo a<;>rfl
def hX(k:e 11=some (DV j))(l:e 35=some (C7 d c))(o:d.length<lim)(u:∀a∈BY d,a.natAbs<1000000)(t:∃a∈BY d,a≠0):∃C,Ao (AN T3 (n+1)) (K6.body.drop 2) e f=some (.ret (Gk j d c).toV,C,f):=by
 let s:=upd (upd e 68 (.int (B6 0 (BY d)))) 69 (.int (-c));show AJ t λa r y=>?_;(try clear t);have v:0<B6 0 _:=Uv r y;have A:=Ai (Nat.le_of_dvd (Int.natAbs_pos.mpr y) (Int.ofNat_dvd_left.mp ((Nc _ 0).2 a r))) (u a r);have w:∀b:_,Cc f .fdiv (.int b) (.int _)=some (.int (b/B6 0 (BY d))):=λb=>by show Mine.AU (Int.fdiv_eq_ediv_of_nonneg _ (Co _)) (AF λh=>h.elim (HR (JK v)) λh=>absurd A (LH (AQ (by decide:1000000<=1073741824) h)))
 have i:AD (AN T3 (n+1)) (.and [.cmp .ne (.var 11) (.str "linear_le"),.cmp .ne (.bin _ (.var 69) (.var 68)) (.int 0)]) s f=some (.bool (j&&_),f):=IF (Aq (AH k) ?r (by clear k;cases j<;>rfl)) (Aq (BA rfl rfl (by show Mine.AU (O7 _ (Co _)) ?_;show AF (HR (JK v)):Cc f .mod (.int (-c)) (.int (B6 0 (BY d)))=some (.int (-c%B6 0 (BY d))))) ?r ?r);have z:A8 (AN T3 (n+1)) (K6.body.getD 2 .fail) e f=some (_,s,f):=Az (CI (AL (BI (AL (P1 l o λm m=>by rfl) ?r) (by have:=Zz (n:=n) (f:=f) u;unfold BY at this⊢;rw[Bj]at this;show this:Ae T3 (n+1) 0 [V.lst (d.map λp=>V.int p.2)] f=some (.int (B6 0 (BY d)),f))) (AL (bj (BM (AH l) ?r rfl)) ?r))) ?r;unfold Gk;by_cases h:j=true/\-c%B6 0 (BY d)≠0;·show J (AG h) ?_;(have x:=h;clear h;show AV x λB h=>?_;(try clear x);obtain rfl:=B);replace i:=I9.mpr h▸i;show⟨_,AI z (Ap (BS i ?r (Ap (BL (Aq (AH k) ?r ?r)))))⟩
 ·show J (AF h) ?_;have:(j&&!-c%B6 0 (BY d)==0)=false:=by clear k i;cases j with|false=>rfl|true=>show J (A5.mpr (Classical.not_not.mp λq=>h ⟨rfl,q⟩)) ?_;rfl
  rw[this]at i;show J (by unfold Gs.toV Row.toV BY keys;dsimp only;show J Bj (J Bj (J Bj ?_));rfl:(Gs.row ⟨j,(BY d).map λa=>a/B6 0 (BY d),keys d,-c/B6 0 (BY d)⟩).toV=.tup [DV j,.tup (d.map λp=>V.int (p.2/B6 0 (BY d))),.tup (d.map λp=>V.int p.1),.int (-c/B6 0 (BY d))]) ?_;show⟨s,AI z (AI (Bq i ?r ?r) (Ap (BL (CI (AL (AH k) (AL (Bk (AL (P1 l o λp m=>BA rfl rfl (w _)) ?r) ?r) (AL (Bk (AL (P1 l o λm m=>by rfl) ?r) ?r) (AL (BA rfl rfl (w _)) ?r))))))))⟩
def Po(j)(w:Val)(q:Ax g g.next)(t:Cm g w.ps)(s:w.ps.length<lim)(l:∀a∈BY w.ps,a.natAbs<1000000/\a≠0):Ae T3 (n+4) 52 [.ref 1,DV j,w.toV] (U g)=some ((rowF j (Bc g w.ps w.c w.c).1 (Bc g w.ps w.c w.c).2 w.ps w.c).toV,U g):=by
 let k:=upd (upd (upd (upd (upd (upd (λu=>none) 10 w.toV) 11 (DV j)) 42 (.ref 1)) 4 (.int (Bc g w.ps w.c w.c).1)) 5 (.int (Bc g w.ps w.c w.c).2)) 35 (C7 w.ps w.c);have o:A8 (AN T3 (n+3)) (K6.body.getD 0 .fail) (upd (upd (upd _ 10 _) 11 _) 42 (.ref 1)) (U g)=some (_,k,_):=Az (CI (AL (B5 rfl ?r ?r rfl (LS q (J6 w) t)) (AL (BI rfl (J6 w)) ?r))) ?r;have i:=hW (P:=AN T3 (n+3)) (e:=k) (f:=U g) ?r ?r ?r;unfold rowF;generalize c:dec j _ _=d at i
 cases d with|some b=>
  have:=DR (w:=52) (D:=[_,_,_]) ?r ?r (AI o (Ap i))
  show J this ?_;rewrite[EG];rfl|none=>(show Ac (hX (n:=n+2) (f:=U g) (e:=k) ?r ?r s (λa h=>(l a h).1) (by cases m:w.ps with
    |nil=>rw[m]at c;change dec j w.c w.c=_ at c;unfold dec at c;cases j with|true=>simp at c;split at c<;>show Ce c|false=>simp at c;show absurd c.1 (VG c.2)
    |cons p r=>have:_∈BY w.ps:=J m AR;show⟨p.2,AR,(l p.2 this).2⟩)) λv s2=>?_);have:=DR (w:=52) (D:=[_,_,_]) ?r ?r (AI o (AI i s2));show J this ?_;rewrite[EG];rfl
end
end
mutual
open A
noncomputable def Bf:BR:=[(0,1)]
structure Wk(N:Nat)(g:GS):Prop where
 low:Ax g g.next
 l1:g.vars.length+N<lim
 l2:g.made.length+N<lim
 l3:g.BD.length+N<lim
 DW:∀k v,BK g.made k=some v->∃z:Nat,v=.int z
def Once(g:GS)(k:CV)(H:BR)(t:Nat->V)(E:Nat)(L:GS):Prop:=BK g.made k=some (.int E)/\L=g\/BK g.made k=none/\E=g.vars.length/\L=CU (withVar g k H) (t E) 
noncomputable def OJ(r:Row):CV:=.tup [.str (Str.ofString (if r.eq then"linear_eq"else"linear_le")),.tup (r.cs.map CV.int),.tup (r.xs.map λ(x:Nat)=>CV.int x),.int r.c]
def MO(r:Row):CV:=.tup [.str "reif",OJ r]
def OH(b:Nat)(r:Row):V:=.tup [.str "reif",.int b,r.toV]
def TT(g:GS)(r:Row)(w:Val)(L:GS):Prop:=(∃x,r.cs=[1]/\r.xs=[x]/\Ad g x=Bf/\w=.bit x (r.eq&&r.c==1)/\L=g)\/∃z,Once g (MO r) Bf (λb=>OH b r) z L/\w=.bit z true 
end
section
mutual
open A
variable{n O:Nat}{g L:GS}{f T:St}{P:Pg}{e:Env}
def Wk.le(h:Wk O g)(a:u<=O):Wk u g:=⟨h.low,by have:=h.l1;show Ai (EJ a _) this,by have:=h.l2;show Ai (EJ a _) this,by have:=h.l3;show Ai (EJ a _) this,h.DW⟩
def Wk.v0(h:Wk O g):g.vars.length<lim:=Ai (A2 _ _) h.l1
def Wk.m0(h:Wk O g):g.made.length<lim:=Ai (A2 _ _) h.l2
def Wk.t0(h:Wk O g):g.BD.length<lim:=Ai (A2 _ _) h.l3
def hI(z)(k:CV)(v:V):(putC z k v).length<=z.length+1:=by induction z with|nil=>show Ag _|cons b z a=>
  unfold putC;split;·show A1 _
  ·show HX a
open Classical in
def Nf(z:List (CV×V))(k a:CV)(v:V)(c:a≠k):BK (putC z k v) a=BK z a:=by induction z with|nil=>show KO (CE c)|cons b z d=>
  show iG (G:=λl=>BK l a=BK (b::z) a) (λh=>?_) λh=>?_;·have q:¬b.1=a:=λi=>c (i.symm.trans h);show(KO (j:=(b.1,v)) q).trans (KO q).symm
  ·show(Classical.em (b.1=a)).elim (λq=>(Nh (j:=(b.1,b.2)) q).trans (Nh q).symm) λq=>(KO q).trans (d.trans (KO q).symm)
def Wk.var(h:Wk (O+1) g)(k:CV)(H:BR):Wk O (withVar g k H):=by
 show⟨h.low,?_,?_,by have:=h.l3;show BH this,λq v a=>?_⟩;·show J Bp (J Iz ?_);have:=h.l1;show lf this (by simp+arith)
 ·show Ai (AQ (Jx (hI _ k _) O) (AY (Mv ..))) h.l2
 ·change BK (putC _ k _) q=_ at a;by_cases b:q=k;·rw[b,Ng]at a;show⟨_,(AP a).symm⟩
  ·rw[Nf _ _ _ _ b]at a;show h.DW q v a
def Wk.told(h:Wk (O+1) g)(t:V):Wk O (CU g t):=⟨h.low,by have:=h.l1;show BH this,by have:=h.l2;show BH this,by(show J Bp ?_;show J Iz ?_);have:=h.l3;show lf this (by simp+arith),h.DW⟩
def Once.wk(h:Once g k H t E L)(w:Wk (O+2) g):Wk O L:=by
 rcases h with⟨_,rfl⟩|⟨_,_,rfl⟩;·show w.le (A2 _ _)
 ·show(w.var k H).told _
def Px(H):∀p:List _,E4 H (p.map V.int)=some (p.map CV.int):=by intro p;induction p with|nil=>(cases H<;>rfl)|cons i p a=>show(?_:b2 (G8 H (V.int i)) (E4 H _) _=_);show J a ?_;clear a;cases H<;>rfl
def Py(H)(u:List _):E4 H (u.map λ(x:Nat)=>V.int x)=some (u.map λ(x:Nat)=>CV.int x):=by have:=Px H (u.map λ(x:Nat)=>x);rw[Bj,Bj]at this;show this
def DF(h:G8 H v=some c)(b:E4 H D=some a):E4 H (v::D)=some (c::a):=b1 h (m1 b rfl)
def ID(h:E4 H D=some a):G8 (H+1) (.tup D)=some (.tup a):=m1 h rfl
def aZ(H)(r):G8 (H+2) r.toV=some (OJ r):=ID (DF ?r (DF (ID (Px H _)) (DF (ID (Py H _)) ?r)))
def XH(r):Cf (.tup [.str "reif",r.toV])=some (MO r):=m1 (DF ?r (DF (aZ 3 r) ?r)) rfl
def N'(w:Wk (O+1) g)(d:Cf h=some k){b:Prop}(p:∀E:Nat,BK g.made k=some (.int E)->Ae T3 (n+2) 49 [.ref 1,h,C0 H] (U g)=some (.tup [.int E,.bool false],U g)->b)(i:BK g.made k=none->Ae T3 (n+2) 49 [.ref 1,h,C0 H] (U g)=some (.tup [.int g.vars.length,.bool true],U (withVar g k H))->b):b:=by cases a:BK _ k with|some v=>show Ac (w.DW k v a) λE c=>p E (a.trans (AE _ c)) (Pm w.low d (a.trans (AE _ c)))|none=>show i a (M7 w.low d a w.v0 w.m0)
def b4:∀c:List Int,BZ f .eq (.tup (c.map V.int)) (.tup [.int 1])=some (decide (c=[1]))|[]=>rfl|[a]=>AE some ((Bool.and_true _).trans (decide_eq_decide.mpr ⟨AE λx=>[x],λh=>(List.cons.inj h).1⟩))|a::b::r=>AE some ((Bool.and_false _).trans (Bz λh=>by cases h).symm)
def Ud:∀H:BR,BZ f .eq (C0 H) (C0 Bf)=some (decide (H=Bf))|[]=>rfl|[p]=>AE some ((Bool.and_true _).trans (Fh.mpr ⟨λh=>BC (AE (λx=>[x]) (Prod.ext (eq_of_beq ((Ct _ _).mp h).1) (eq_of_beq ((Ct _ _).mp ((Ct _ _).mp h).2).1))),λh=>by cases A9 h;rfl⟩))|a::b::r=>AE some ((Bool.and_false _).trans (Bz λh=>by cases h).symm)
def je(w:Ax g g.next)(b:Ad g x≠[])(a:Ad g x=Bf):Ae T3 (n+3) 55 [.ref 1,Row.toV ⟨j,[1],[x],c⟩] (U g)=some (Hb x (j&&c==1),U g):=by cases j<;>show C3 [] ?r (.call (LU b)<|.cmp ((Ud _).trans (AE _ (BC a))) .nil) (EG _)
def jf{r:Row}(m:∀x∈r.xs,Ad g x≠[])(k:r.cs.length=r.xs.length)(d:¬∃x,r.cs=[1]/\r.xs=[x]/\Ad g x=Bf)(c:e 70=some (.tup (r.cs.map V.int)))(h:e 20=some (.tup (r.xs.map λ(x:Nat)=>V.int x)))(i:e 42=some (.ref 1)):AD (AN T3 (n+2)) (Sd.body.getD 1 .fail).cond e (U g)=some (.bool false,U g):=by
 by_cases a:r.cs=[1];·show(List.length_eq_one_iff.mp (k.symm.trans (AE _ a))).elim λx b=>HA [] ?r (.var (c.trans (AE (λl=>some (V.tup _)) a))<|.var i<|.var (h.trans (AE (λl=>some (V.tup _)) b))<|.call (LU (m x (b▸AR)))<|.cmp ((Ud _).trans (AE _ (Bz λj=>d ⟨x,a,b,j⟩))) .nil)
 ·show HA [] ?r (.var c<|.cmp ((b4 _).trans (AE _ (Bz a))) .nil)
def aH(w:Wk (O+2) g)(m:∀x∈r.xs,Ad g x≠[])(o:r.cs.length=r.xs.length){d:Prop}(c:∀v L,Ae T3 (n+3) 55 [.ref 1,r.toV] (U g)=some (Val.toV v,U L)->TT g r v L->d):d:=by
 by_cases h:∃x,r.cs=[1]/\r.xs=[x]/\Ad g x=Bf;·show B3 h λx j b k=>c _ g ?_ (.inl ⟨x,j,b,k,rfl,rfl⟩);have p:r=⟨r.eq,[1],[x],r.c⟩:=j▸b▸rfl;show p▸je w.low (m x (b▸AR)) k
 ·have i:=λ{n}=>jf (n:=n) (e:=upd (upd (upd (upd (upd (upd (λq=>none) 33 r.toV) 42 _) 11 (DV r.eq)) 70 _) 20 _) 69 (.int r.c)) m o h rfl rfl rfl;cases a:BK _ _ with|some v=>show Ac (w.DW _ _ a) λz l=>c _ g (HB [] ?r (.ex i<|.call (Pm (H:=Bf) w.low (XH r) (a.trans (AE _ l))) .nil) w.low rfl rfl) (.inr ⟨z,.inl ⟨l▸a,rfl⟩,rfl⟩)|none=>show c _ (CU (withVar g (MO r) Bf) _) (HB [] ?r (.ex i<|.call (M7 (H:=Bf) w.low (XH r) a w.v0 w.m0)<|.call (G7 (g:=withVar g _ Bf) (t:=OH _ r) w.t0) .nil) w.low rfl rfl) (.inr ⟨_,.inr ⟨a,rfl,rfl⟩,rfl⟩)
end
end
mutual
open A
noncomputable def CS:Val->Val|.bit x s=>.bit x !s|.bool b=>.bool !b|w=>w
noncomputable def turn(r:Row):Row×Bool:=if r.cs.headD 0<0 then(⟨r.eq,r.cs.map λa=>-a,r.xs,if r.eq then-r.c else-r.c-1⟩,!r.eq)else(r,false)
def BQ(g:GS)(w:Val):Int×Int:=Bc g w.ps w.c w.c
def RT(g:GS)(j:Bool)(w v:Val)(L:GS):Prop:=match rowF j (BQ g w).1 (BQ g w).2 w.ps w.c with|.so b=>v=.bool b/\L=g|.row r=>∃u,TT g (turn r).1 u L/\v=if(turn r).2 then CS u else u
end
section
mutual
open A
variable{n O:Nat}{g L:GS}{f T:St}{P:Pg}{e:Env}
def TT.bit(h:TT g r v L):∃x s,v=.bit x s:=by
 rcases h with⟨x,_,_,_,h,_⟩|⟨z,_,h⟩;·show⟨_,_,h⟩
 ·show⟨_,_,h⟩
def TT.wk(h:TT g r v L)(w:Wk (O+2) g):Wk O L:=by
 rcases h with⟨x,_,_,_,_,h⟩|⟨z,h,_⟩;·show J h ?_;show w.le (A2 _ _)
 ·show h.wk w
def TT.other(h:TT g r v L):L.other=g.other/\L.next=g.next/\L.part=g.part:=by rcases h with⟨x,_,_,_,_,rfl⟩|⟨z,⟨_,rfl⟩|⟨_,_,rfl⟩,_⟩<;>show⟨rfl,rfl,rfl⟩
def Z1(h:∃x s,v=.bit x s):Ae T3 (n+1) 1 [v.toV] f=some ((CS v).toV,f):=by show Eb h λx s a=>?_;(try clear h);obtain rfl:=a;show LZ x s
def a4{b:List _}(h:e 70=some (.tup (b.map V.int)))(d:b.length<lim):AD P (.comp (.neg (.var 17)) [.mk (.nm 17) (.val (.var 70)) []] [17,115]) e f=some (.lst ((b.map λa=>-a).map V.int),f):=by have:=NP (P:=P) (b:=.neg (.var 17)) (r:=[17,115]) (p:=.nm 17) (h:=λv=>match v with|.int a=>.int (-a)|_=>.none) (EC (AH h) ?r:_=some (b.map V.int,none,f)) (λx c=>by show AJ (Ar.mp c) λa j i=>?_;clear c;obtain rfl:=i;show⟨_,by rfl,by rfl⟩) (by rw[Al];show d);show J this (J Bj (J Bj rfl))
def Tw(j)(c):dec j c c≠none:=by unfold dec;cases j with|true=>dsimp only;show J (AG rfl) ?_;split<;>show Ce|false=>dsimp only;show J (AG (by by_cases h:c<=0<;>simp[h];show Nr h)) Ce 
def Tb{w:Int->Int}{a:List (Nat×Int)}:((BY a).map w).length=(keys a).length:=((Al _).trans (Al _)).trans (Al _).symm
def aE(j:Bool)(w:Val)(k:Wk (O+2) g)(At:Cm g w.ps)(AC:w.ps.length<lim)(Y:∀a∈BY w.ps,a.natAbs<1000000/\a≠0):∃v L,Ae T3 (n+5) 53 [.ref 1,DV j,w.toV] (U g)=some (Val.toV v,U L)/\RT g j w v L:=by let D:Env:=upd (upd (upd (λDo=>none) 10 w.toV) 11 (DV j)) 42 (.ref 1);unfold RT;have M:=Po (n:=n) j w k.low At AC Y;unfold BQ;generalize t:rowF j _ _ w.ps w.c=R at M⊢;have K:A8 (AN T3 (n+4)) (K7.body.getD 0 .fail) D (U g)=_:=Az (B5 rfl ?r ?r rfl M) ?r;clear M;cases R with|so b=>have:=DR (w:=53) (D:=[.ref 1,DV j,w.toV]) ?r ?r<|AI K<|rfl;rw[EG]at this;show⟨.bool b,g,this,rfl,rfl⟩|row r=>
  have B:=by
   unfold rowF at t;split at t;·cases t
   ·show t
  have z:=by
   unfold Gk at B;split at B;·cases B
   ·show(Gs.row.inj B).symm
  have Z:∀x∈r.xs,Ad g x≠[]:=by show J z ?_;intro x T;show AJ (Ar.mp T) λp I N=>?_;clear T;obtain rfl:=N;show(At p I).1
  have H:r.cs.length=r.xs.length:=J z Tb;have X:∀a∈r.cs,a≠0:=by show J z ?_;intro b S;show AJ (Ar.mp S) λa f N=>?_;obtain rfl:=N;intro Ch;have:=Int.mul_ediv_cancel' ((Nc _ 0).2 a f);rw[Ch]at this;show(Y a f).2 (Gx (Aa (Cy this.symm) (by simp+arith)) (Aa (Cy this) (by simp+arith)))
  cases s:r.cs with
  |nil=>
   exfalso;have:=by rw[z]at s;show GQ.mp (GQ.mp s)
   have y:=t;rw[this]at y;change(match dec j w.c w.c with|some b=>Gs.so b|none=>_)=_ at y;cases e:dec j w.c w.c with|none=>show(Tw j w.c) e|some b=>replace y:=e▸y;cases y
  |cons a EQ=>
  let Q:Env:=upd (upd (upd (upd (upd D 33 r.toV) 11 (DV r.eq)) 70 (.tup (r.cs.map V.int))) 20 (.tup (r.xs.map λ(x:Nat)=>V.int x))) 69 (.int r.c);let i:Env:=upd Q 50 (.tup ((r.cs.map λa=>-a).map V.int));have E:AD (AN T3 (n+4)) (.idx (.var 70) (.int 0)) i (U g)=_:=BM (AH (J s rfl:some (V.tup (r.cs.map V.int))=_)) ?r (Gg (x:=0) ?r);have o:AD _ (.and [.cmp .lt _ (.int 0),.cmp .eq (.var 11) (.str "linear_le")]) i (U g)=some (.bool (_&&!r.eq),U g):=IF (Aq E ?r ?r) (Aq rfl ?r (by cases r.eq<;>rfl));have s3:∀{fl P}{A:Env},Ao (AN T3 (n+4)) (K7.body.drop 5) i (U g)=some (fl,A,P)->Ao (AN T3 (n+4)) K7.body D (U g)=some (fl,A,P):=λh=>AI K<|AI (AC:=upd D 33 r.toV) (T:=U g) (Bq (Bk (AL (AH (v:=r.toV) ?r) ?r) ?r) ?r ?r)<|AI (AC:=Q) (T:=U g) ?r<|AI (AC:=Q) (T:=U g) (Bq (Aq (AH (v:=DV r.eq) ?r) ?r (t:=false) (by cases r.eq<;>rfl)) ?r ?r)<|AI (AC:=i) (T:=U g) (Az (Bk (AL (a4 ?r (by(show J H ?_;show J z ?_);show(?_:(keys w.ps).length<lim);unfold keys;rw[Al];show AC)) ?r) ?r) ?r) h;(show aH (n:=n+1) (O:=O) (g:=g) (r:=(turn r).1) k (by unfold turn;split<;>show Z) (by unfold turn;split<;>first|show H|show(Al ..).trans H) λv G c d=>?_);show⟨_,G,BG d.other λF o2 Db=>?_,v,d,rfl⟩;have W:r.cs.headD 0=a:=J s rfl;apply(λu⟨A,h⟩=>by have:=DR (B:=T3) (w:=53) (D:=[.ref 1,DV j,w.toV]) ?r ?r (s3 h);(show J this ?_;show J (EV k.low (by(show AV k.low λa b=>?_);show⟨a,λm l I=>b m l (Mine.AU Db I)⟩) λm Do=>Ga F m) ?_;show Mine.AU F ?_;rfl):∀u:Val,(∃A,Ao (AN T3 (n+4)) (K7.body.drop 5) i (U g)=some (.ret u.toV,A,U G))->_=some (u.toV,U G));unfold turn at c d⊢;rw[W]at c d⊢;by_cases q:a<0;·rw[AG q]at c d⊢;rw[BC q]at o;cases C:r.eq with|false=>rw[C]at o c d;show⟨i,Ap<|BS o ?r<|Ap<|BL<|BI (AL (B5 (AH ?r) ?r ?r (AL (CI (AL (AH (v:=DV false) (Mine.AU C rfl)) rfl)) ?r) c) ?r) (Z1 d.bit)⟩|true=>rw[C]at o c d;show⟨i,AI (Bq o ?r ?r)<|Ap<|BL<|B5 (AH ?r) ?r ?r (AL (Fz (Aq E ?r (U2 (VG (D6 q)))) ?r (CI (AL (AH (v:=DV true) (Mine.AU C rfl)) rfl))) ?r) c⟩
  ·rw[AF q]at c d⊢;rw[Bz q]at o;show⟨i,AI (Bq o ?r ?r)<|Ap<|BL<|B5 rfl ?r ?r (AL (E6 (Aq E ?r (QM (by show Aa (eA (Aa (inl q) (by simp+arith)) (X a (J s AR))) (by simp+arith)))) ?r rfl) ?r) c⟩
end
end
mutual
open A
noncomputable def Aj:Val->Bool|.bit _ _=>true|.bool _=>true|_=>false
noncomputable def Dq:Val->Val->Bool|.bit x s,.bit y t=>x==y&&s==t|.bool s,.bool t=>s==t|_,_=>false
noncomputable def Cd(p:Nat×Bool):Val:=.bit p.1 p.2
noncomputable def LP:List Val->List (Nat×Bool)|[]=>[]|.bit x s::r=>(x,s)::LP r|_::r=>LP r
def A3(d:List Val):List V:=d.map Val.toV
noncomputable def Gi(u:List Nat):V:=.tup (u.map λ(x:Nat)=>V.int x)
def LX(b a:List Nat):V:=.tup [.str "clause",Gi b,Gi a]
def RS(d:List Val)(g L:GS):Prop:=(.bool true∈d\/∃x,.bit x true∈d/\.bit x false∈d)/\L=g\/∃b a,.bool true∉d/\(∀x,x∈b↔.bit x true∈d)/\(∀x,x∈a↔.bit x false∈d)/\((∀x,x∈b->x∉a)/\b.length<64/\a.length<64)/\L=CU g (LX b a) 
end
section
mutual
open A
variable{n O:Nat}{g L:GS}{f T:St}{P:Pg}{e:Env}
def NI{j:Type}{F}{h}{d:List j}(b:DY f a)(step:∀x∈d,w (F x) f=some (h x,f)):Dr w a (d.map F) f=some (d.flatMap h,f):=by induction d with|nil=>rfl|cons x k i=>show b1 (step x AR) (by dsimp only;show J (AG b) ?_;show m1 (i λy c=>step y (Ah _ c)) rfl)
def Gb{q:Type}{d:List q}{F E}(l:C2 P N e f=some (d.map F,a,T))(step:∀x∈d,∃c,BP p (F x) (clear e r)=some c/\AD P b c T=some (E x,T))(m:d.length<lim)(k:DY T a:=by trivial):AD P (.comp b [.mk p N []] r) e f=some (.lst (d.map E),T):=by have h:FY P _ [.mk p N []] _ e f=_:=b1 l (NI k λx o=>by show AJ (step x o) λc i j=>b1 i (m1 j rfl));show b1 h ?_;dsimp only;(show Mine.AU List.map_eq_flatMap ?_;show J (AG (by rw[Al];show m)) ?_;rfl)
def Ge{w:Type}{d:List w}{F E}{t}(q:C2 P N e f=some (d.map F,a,T))(step:∀x∈d,∃h v,BP p (F x) (clear e r)=some h/\AD P c h T=some (v,T)/\Bb T v=some (t x)/\(t x=true->AD P b h T=some (E x,T)))(s:d.length<lim)(o:DY T a:=by trivial):AD P (.comp b [.mk p N [c]] r) e f=some (.lst ((d.filter t).map E),T):=by have k:FY P _ [.mk p N [c]] _ e f=some (d.flatMap λx=>if t x then _ else[],T):=b1 q (NI o λx u=>by show Gr (step x u) λh v l j h3 m=>b1 l ?_;cases i:t x with|true=>rw[i]at h3;show b1 (b1 j (b1 h3 rfl)) (m1 (m i) rfl)|false=>rw[i]at h3;show b1 (b1 j (b1 h3 rfl)) rfl);show b1 k ?_;dsimp only;(show J (Un d) ?_;show J (AG (by rw[Al];show Ai (H9 _ _) s)) ?_;rfl)
def MW(d:Aj a=true):Dq a b=true↔a=b:=by cases a with
 |int=>show AX d|sum=>show AX d|bit x s=>cases b with|bit y t=>show⟨λh=>congr (AE _ (eq_of_beq ((Ct _ _).mp h).1)) (eq_of_beq ((Ct _ _).mp h).2),λh=>by injection h with c i;show(Ct _ _).mpr ⟨A5.mpr c,A5.mpr i⟩⟩|_=>show⟨AX,λh=>nomatch h⟩
 |bool s=>cases b with|bool t=>show⟨λh=>AE _ (eq_of_beq h),λh=>by injection h with c;show A5.mpr c⟩|_=>show⟨AX,λh=>nomatch h⟩
def Ue(c:Aj a=true)(d:Aj b=true):DH (H+2) a.toV b.toV=some (Dq a b):=by cases a with
 |int=>show AX c|sum=>show AX c|bit x s=>cases b with|int=>show rfl|sum=>show rfl|bool t=>rfl|bit y t=>
   show(?_:some (_&&(_&&(_&&true)))=some (_&&_));have:((x:Int)==y)=(x==y):=by rw[Fh,A5,A5];show Int.ofNat_inj
   show J this (J (BC rfl) ?_);rewrite[Bool.true_and,Bool.and_true];rfl
 |bool s=>cases b with|int=>show AX d|sum=>show rfl|bit=>rfl|bool t=>rfl
def Vp(b:Aj t=true):∀{d},(∀B∈d,Aj B=true)->Dl t.toV (A3 d)=some (d.any λB=>Dq B t):=by intro d;induction d with|nil=>intro j;show rfl|cons B i a=>intro h;show(?_:b2 _ _ _=_);show J (Ue (h B AR) b) (J (a λv c=>h v (Ah _ c)) rfl)
def LM{d:List _}(h:∀B∈d,Aj B=true):(d.any λB=>Dq B t)=true↔t∈d:=by
 rw[Ds];constructor;·rintro⟨B,b,c⟩;show Mine.AU ((MW (h B b)).mp c) ?_;show b
 ·showλa=>⟨t,a,(MW (h t a)).mpr rfl⟩
def NY(h:Aj t=true):Aj (CS t)=true:=by cases t<;>first|rfl|show AX h
def M6(h:Aj t=true):Ae T3 (n+1) 1 [t.toV] f=some ((CS t).toV,f):=by cases t with|int=>show AX h|sum=>show AX h|bit x s=>show LZ x s|bool s=>show Tt s
def gY{m:Type}{w:m->V}(h:u.Perm ys):∀{z},ys=z.map w->∃j:List m,u=j.map w/\j.Perm z:=by induction h with
 |nil=>intro z a;cases z with|nil=>show⟨[],rfl,.nil⟩|cons _ _=>cases a
 |cons x _ o=>intro z a;cases z with|nil=>cases a|cons b z=>injection a with i d;show AJ (o d) λj k p=>⟨_,J i (J k rfl),p.cons b⟩
 |swap x y l=>intro z a;cases z with|nil=>cases a|cons b z=>injection a with i d;cases z with|nil=>cases d|cons c z=>injection d with d k;show⟨_,J i (J d (J k rfl)),.swap b c z⟩
 |trans _ _ q r=>intro z a;show AJ (r a) λb1 i s=>AJ (q i) λb2 d t=>⟨b2,d,t.trans s⟩
def W4(h:z.length<64):∃a:List _,a.Perm z/\DC (z.map λp=>(Cd p).toV)=some (a.map λp=>(Cd p).toV):=by show AJ (gY (W0 (z.map λp=>(Cd p).toV)) rfl) λa c i=>?_;cases z with|nil=>show⟨[],.nil,rfl⟩|cons b z=>
  show⟨a,i,?_⟩
  unfold DC;(rewrite[Al];show J (AG h) ?_;show J (AF AX) ?_;show J (AG (by
  rw[DD];intro v d;show AJ (Ar.mp d) λp k j=>?_;clear d;obtain rfl:=j;have c:M3 (Cd p).toV=some ((p.1:Int),p.2):=by show(?_:(if Str.ofString "bit"=Str.ofString "bit"then some ((p.1:Int),p.2)else none)=_);show AG rfl
  show AE _ c)) ?_;show J c ?_;rfl)
def Tx:∀(p b:List Int),(i∈p.foldl (λb k=>if k∈b then b else k::b) b↔i∈p\/i∈b)/\(p.foldl (λb k=>if k∈b then b else k::b) b).length<=b.length+p.length:=by intro p;induction p with|nil=>intro b;show⟨⟨.inr,λh=>h.elim (λh=>by cases h) id⟩,Ag _⟩|cons a p d=>
  intro b;obtain⟨j,l⟩:=d (if a∈b then b else _);show⟨j.trans ?_,AQ l ?_⟩;·rw[(by
   by_cases h:a∈b;·show J (AG h) ?_;show⟨.inr,λq=>q.elim (λc=>c▸h) id⟩
   ·(show J (AF h) ?_;rewrite[BU];rfl):i∈(if a∈b then b else a::b)↔i=a\/i∈b),BU];show⟨λq=>q.elim (λa=>.inl (.inr a)) λq=>q.elim (λc=>.inl (.inl c)) .inr,λq=>q.elim (λq=>q.elim (λc=>.inr (.inl c)) .inl) λc=>.inr (.inr c)⟩
  ·show J B9 ?_;split;·show A1 _
   ·show J B9 ?_;show by simp+arith 
def eJ(u:List _):ED (u.map λ(x:Nat)=>V.int x)=some (u.map λ(x:Nat)=>(x:Int)):=by induction u with|nil=>rfl|cons x u a=>show m1 a rfl
def sset{u:List _}(h:u.length<64){j:Prop}(m:∀(ys:List _),(∀x,x∈ys↔x∈u)/\ys.length<64->Cb f .JW [.lst (u.map λ(x:Nat)=>V.int x)]=some (.lst (ys.map λ(x:Nat)=>V.int x),f)->j):j:=by
 have b:=(Tx (i:=0) (u.map λ(x:Nat)=>x) []).2;rw[Al,List.length_nil,Nat.zero_add]at b;have c:=λi=>by show(sortI_perm _).mem_iff.trans (((λi=>(Tx (i:=i) (u.map λ(x:Nat)=>(x:Int)) []).1) i).trans (Iff.trans ⟨λq=>q.elim id λq=>absurd q Cu,.inl⟩ Ar))
 show m ((sortI (NN _)).map Int.toNat) ⟨λx=>?_,by(rewrite[Al];show J (sortI_perm _).length_eq ?_);show Ai b h⟩ ?_
 ·rw[Ar];constructor;·rintro⟨i,a,rfl⟩;show AJ ((c i).mp a) λy l d=>?_;clear a;obtain rfl:=d;show l
  ·showλk=>⟨x,(c x).mpr ⟨x,k,rfl⟩,rfl⟩
 ·skip;show J (by show J Bj (GP λi a=>AJ ((c i).mp a) λy o d=>?_);clear a;obtain rfl:=d;rfl:((sortI (NN (u.map λ(x:Nat)=>x))).map Int.toNat).map (λ(x:Nat)=>V.int x)=(sortI (NN (u.map λ(x:Nat)=>x))).map V.int) ?_;show(?_:(if _<4000 then _ else none).map _=_);(rewrite[Al];show J (AG (AZ h (Ay _ _))) ?_;rewrite[eJ]);show(?_:((DC _).map _).map _=_);show J (sorted_ints (Ai b h)) rfl
end
end
section
mutual
open A
variable{n O:Nat}{g L:GS}{f T:St}{P:Pg}{e:Env}
def Ul(a:Val):KJ f a.toV=a.toV:=by cases a<;>rfl
def Qy(c:Aj a=true)(d:Aj b=true):BZ f .ne a.toV b.toV=some !Dq a b:=by show(?_:(DH 7 _ _).map _=_);(rewrite[Ul,Ul];show J (Ue c d) ?_);rfl
def VV(a:Aj t=true)(h:∀B∈d,Aj B=true):BZ f .isin t.toV (.lst (A3 d))=some (d.any λB=>Dq B t):=Vp a h
def ij(h:DC u=some ys):Cb f .sorted [.lst u]=some (.lst ys,f):=by show(?_:((DC u).map _).map _=_);show J h ?_;rfl
def eq_nil(u):DH 7 (.lst u) (.lst [])=some u.isEmpty:=by cases u<;>rfl
def N5:BZ f .ne (.lst u) (.lst [])=some !u.isEmpty:=by show(?_:(DH 7 (.lst u) (.lst [])).map _=_);rw[eq_nil];rfl
def Zc{x:Nat}{s:Bool}{d:List Val}:(x,s)∈LP d↔.bit x s∈d:=by induction d with|nil=>show iff_of_false Cu Cu|cons u r a=>have o:∀{u},¬Val.bit x s=u->(.bit x s∈r↔.bit x s∈u::r):=λh=>⟨Ah _,λq=>(BU.mp q).resolve_left h⟩;cases u with|bit y t=>show BU.trans ((or_congr ⟨λb=>by cases b;rfl,λb=>by cases b;rfl⟩ a).trans BU.symm)|int=>show a.trans (o nofun)|sum=>show a.trans (o nofun)|bool=>show a.trans (o nofun)
def Zb:∀{d},(∀t∈d,Aj t=true)->.bool true∉d->d.filter (λt=>!Dq t (.bool false))=(LP d).map Cd/\(LP d).length<=d.length:=by intro d;induction d with|nil=>intro m m;show⟨rfl,Ag _⟩|cons t r i=>intro h c;show AV (i (λu k=>h u (Ah _ k)) λq=>c (Ah _ q)) λj l=>?_;have a:=h t AR;show J GO (J j ?_);cases t with|int=>show AX a|sum=>show AX a|bit x s=>show⟨rfl,HX l⟩|bool b=>clear a;cases b with|true=>show absurd AR c|false=>show⟨rfl,LF l⟩
def M8(k:Wk (O+1) g)(i:∀t∈d,Aj t=true)(y:d.length<64){G:Prop}(AC:∀L,Ae T3 (n+2) 51 [.ref 1,.lst (A3 d)] (U g)=some (.none,U L)->RS d g L->G):G:=by
 have C:∀{k},k<64->k<lim:=λh=>Br h (by decide);let r:=upd (upd (λl=>none) 51 (.lst (A3 d))) 42 (.ref 1);have H:∀(e){t},_->Aj t=true->∀f:St,AD (AN T3 (n+1)) (.cmp .ne (.var 16) (.bool false)) e f=_:=λe t h a f=>Aq (AH h) ?r (Qy (b:=.bool _) a ?r);have IN:=Ge (e:=r) (f:=U g) (b:=.var 16) (c:=.and [_,.cmp _ (.call 1 [.var 16]) (.var 51)]) (p:=.nm 16) (r:=[16,115]) (N:=.val (.var 51)) ?r (λt a=>⟨_,_,by rfl,IF (H _ ?r (i t a) _) (Aq (BI rfl (M6 (i t a))) rfl (VV (NY (i t a)) i)),by rfl,λl=>rfl⟩) (C y);have o:=IH (Aq ?r rfl (VV (t:=.bool _) ?r i):AD _ (.cmp .isin (.bool true) (.var 51)) r _=_) (Aq (b:=.lst []) IN ?r N5);generalize w:((d.filter _).map _).isEmpty=B at o;have run:∀{fl L Fg},Ao _ _ r _=some (fl,Fg,_)->fl.val=_->_->_->Ae T3 _ 51 _ _=some (.none,U L):=λ{fl L Fg}h Fk FM I=>by have:=Lk (B:=T3) (n:=n+1) (w:=51) (D:=[_,_]) ?r ?r h;show J this (J Fk (J (AG rfl) (J (EV k.low FM λm l=>Ga I m) (Mine.AU I rfl))))
 by_cases D:((d.any λu=>Dq u (.bool true))||!B)=true
 ·rw[D]at o;show AC g (run (b1 (BS o ?r rfl) ?r) ?r k.low rfl) (.inl ⟨?_,rfl⟩);rcases H3 _ _▸D with h|h;·show .inl ((LM i).mp h)
  ·skip;rw[(by simpa using h:B=false),List.isEmpty_eq_false_iff]at w;show Ac (List.exists_mem_of_ne_nil _ w) λv Gc=>AJ (Ar.mp Gc) λt a l=>AV (C9.mp a) λa A=>?_;have M:=i t a;show AV ((Ct _ _).mp A) λFS Fa=>?_;have N:=(LM i).mp Fa;cases t with
   |int=>show AX M|sum=>show AX M|bool b=>cases b with|true=>show .inl a|false=>show AX FS
   |bit x s=>cases s with|true=>show .inr ⟨x,a,N⟩|false=>show .inr ⟨x,N,a⟩
 ·have K:((d.any λu=>Dq u (.bool true))||!B)=false:=Bool.eq_false_iff.mpr D;rw[K]at o;show AV (Bool.or_eq_false_iff.mp K) λP Fs=>?_;have T:_∉d:=λq=>by rw[(LM i).mpr q]at P;show Ck P
  rw[(by simpa using Fs:B=true),LB,GQ,List.filter_eq_nil_iff]at w;show AV (Zb i T) λDb X=>AJ (W4 (Ai X y)) λj F Do=>?_;have Z:j.length<64:=J F.length_eq (Ai X y);have S:=Ge (e:=r) (f:=U g) (b:=.var 16) (p:=.nm 16) (r:=[16,115]) (N:=.val (.var 51)) ?r (λt a=>⟨_,_,by rfl,H _ ?r (i t a) _,by rfl,λl=>rfl⟩) (C y);rw[Db,Bj]at S;let At:=upd r 31 (.lst (j.map λp=>(Cd p).toV));have W:∀(s)(c:ME),(∀(p)(e),e 16=some (Cd p).toV->AD (AN T3 (n+1)) c e _=some (.bool (p.2==s),_))->AD _ _ At _=some (.lst (((j.filter _).map λp=>_).map λ(x:Nat)=>V.int x),U g):=λs c A=>by show J Bj<|Ge (b:=.idx (.var 16) (.int 1)) (p:=.nm 16) (r:=[16,115]) (N:=.val (.var 31)) ?r (λp l=>⟨_,_,by rfl,A p _ ?r,by rfl,λl=>rfl⟩) (C Z)
  have Y:∀(p)(e),e 16=some (Cd p).toV->AD (AN T3 (n+1)) (.idx _ (.int 2)) e (U g)=_:=λp e h=>BM (AH h) ?r rfl;have z:∀(s)(x),x∈(j.filter λp=>p.2==s).map (λp=>p.1)↔.bit x s∈d:=λs x=>by
   rw[<-Zc,Ar,<-F.mem_iff];constructor;·rintro⟨p,h,rfl⟩;show AV (C9.mp h) λh q=>?_;show Mine.AU (A5.mp q) ?_;show h
   ·showλh=>⟨_,C9.mpr ⟨h,EN s⟩,rfl⟩
  have lf:∀s,((j.filter λp=>p.2==s).map λp=>p.1).length<64:=λs=>by rw[Al];show Ai (H9 _ _) Z
  show sset (f:=U g) (lf true) λM2 E EQ=>?_;rcases E with⟨R,Ix⟩;show sset (f:=U g) (lf false) λJP E Ev=>?_;rcases E with⟨Q,ld⟩;let Ch:=upd (upd At 72 (.lst (((j.filter λp=>p.2==true).map λp=>p.1).map λ(x:Nat)=>V.int x))) 73 (.lst (((j.filter λp=>p.2==false).map λp=>p.1).map λ(x:Nat)=>V.int x));show AC (CU g _) (run (fl:=.next) (Fg:=Ch) ?_ ?r k.low rfl) (.inr ⟨_,_,T,λx=>(R x).trans (z _ x),λx=>(Q x).trans (z _ x),⟨λx Go H1=>?_,Ix,ld⟩,rfl⟩);·show AI (Bq o ?r ?r)<|AI (Az (Bk (AL S ?r) (ij Do)) ?r)<|AI (AC:=Ch) (Az (CI (AL (W _ _ λp e h=>by rw[beq_true];show Y p e h) (AL (W _ _ λp e h=>by rw[beq_false];show Gf (Y p e h) ?r) ?r))) ?r)<|AI (D3 (B5 rfl ?r ?r (AL (CI (AL ?r (AL (Bk (AL (Bk rfl EQ) ?r) ?r) (AL (Bk (AL (Bk rfl Ev) ?r) ?r) ?r)))) ?r) (G7 (Ai (A2 _ _) k.l3)))) ?r
  ·skip;show w _ ((z _ x).mp ((R x).mp Go)) (J ((LM i).mpr ((z _ x).mp ((Q x).mp H1))) rfl)
end
end
mutual
open A
noncomputable def GS.lay(g:GS)(k:Nat)(o:A'):GS:={g with other:=λm=>if m=k then some o else g.other m,next:=k+1}
noncomputable def GS.at(g:GS)(k:Nat):GS:={g with next:=k}
def Bw(z:List (Nat×Bool)):List V:=z.map λp=>(Cd p).toV
noncomputable def Dk:List (Nat×Bool)->List Val->Option (List (Nat×Bool))|a,[]=>some a|a,.bit x s::b=>if(x,!s)∈a then none else Dk (if(x,s)∈a then a else a++[(x,s)]) b|a,.bool true::b=>Dk a b|_,.bool false::_=>none|a,_::b=>Dk a b
noncomputable def OA(u:List Nat):CV:=.tup [.str "or",.tup (u.map λ(x:Nat)=>CV.int x)]
def I'(p:Nat×Bool):CV:=.tup [.str "bit",.int p.1,.int (Bu p.2)]
def EL(z:List (Nat×Bool)):CV:=.tup [.str "all",.tup (z.map I')]
def OB(u:List Nat)(b:Nat):V:=.tup [.str "or",Gi u,.int b]
def M0(u:List Nat)(b:Nat):V:=.tup [.str "and",Gi u,.int b]
noncomputable def CY(z:List (Nat×Bool)):List Nat:=z.map λp=>p.1
def Fw(b:Nat):List (Nat×Bool)->GS->GS->Prop|[],g,a=>a=g|p::r,g,a=>∃c,RS [.bit b false,Cd p] g c/\Fw b r c a
inductive AB(bs:List (Nat×Bool))(g:GS)(v:Val)(g':GS):Prop
 |Kd (h:∀p∈bs,p.2=false) (z:Nat) (ho:Once g (OA (CY bs)) Bf (OB (CY bs)) z g') (hv:v=.bit z false)
 |LL (h:∀p∈bs,p.2=true) (z:Nat) (ho:Once g (EL bs) Bf (M0 (CY bs)) z g') (hv:v=.bit z true)
 |hit (z:Nat) (hv:v=.bit z true) (h:BK g.made (EL bs)=some (.int z)) (hg:g'=g)
 |mix (z:Nat) (hv:v=.bit z true) (h:BK g.made (EL bs)=none) (hz:z=g.vars.length) (g1:GS) (h1:Fw z bs (withVar g (EL bs) Bf) g1) (h2:RS (.bit z true::bs.map λp=>CS (Cd p)) g1 g')
def HI(q:Option (List (Nat×Bool)))(g:GS)(v:Val)(L:GS):Prop:=q.casesOn (motive:=λb=>Prop) (v=.bool false/\L=g) λl=>l.casesOn (motive:=λb=>Prop) (v=.bool true/\L=g) λp q=>q.casesOn (motive:=λb=>Prop) (v=Cd p/\L=g) λq r=>∃a,a.Perm (p::q::r)/\AB a g v L
def AO(d:List Val)(g:GS)(v:Val)(L:GS):Prop:=HI (Dk [] d) g v L
end
section
mutual
open A
variable{n O:Nat}{g L:GS}{f T:St}{P:Pg}{e:Env}
def Ij{g:GS}{p:Option (Nat×List V)}{o:Nat->Option A'}{n k:Nat}{v:A'}(b:Dn ⟨g.vars,g.BD,g.made,p,o,n⟩ k=some v)(j:∀i,i≠k->Cr g i=Cr ⟨g.vars,g.BD,g.made,p,o,n⟩ i)(a:k=1\/Fd g.part=Fd p):(⟨λm=>if m=k then some v else Dn g m,n⟩:St)=U ⟨g.vars,g.BD,g.made,p,o,n⟩:=AE (St.mk · n) (funext λi=>iG (G:=(·=_)) (λh=>h▸b.symm) λh=>WG (a.imp (λq w=>h (w.trans q.symm)) id) (j i h))
def OC{m i:Nat}{l:List V}(a:g.part=some (m,l)):Cr g i=if i=m then some (.list l)else g.other i:=by unfold Cr;rw[a]
def WN{i:Nat}(a:g.part=none):Cr g i=g.other i:=by unfold Cr;rw[a]
def MD{o:Nat->Option A'}{n i:Nat}(h:g.other i=o i):Cr g i=Cr ⟨g.vars,g.BD,g.made,g.part,o,n⟩ i:=by cases a:g.part with|none=>show(WN a).trans h|some q=>show(OC a).trans (AE (ite _ _) h)
def F3{o:A'}(h:Ax g g.next):(U g).new o=U (g.lay g.next o):=Ij ((Ax.at (g:=g.lay g.next o) h (Ag _)).trans (AG rfl)) (λi a=>MD (AF a).symm) (.inr rfl)
def Gh{o:A'}{k:Nat}(h:Ax g k):(U (g.lay k o)).objs k=some o:=(Ax.at (g:=g.lay k o) h (Ag _)).trans (AG rfl)
def L1{o I:A'}{k:Nat}(h:Ax g k):(U (g.lay k o)).set k I=U (g.lay k I):=Ij (g:=g.lay k o) (Gh h) (λi a=>MD ((AF a).trans (AF a).symm)) (.inr rfl)
def IS(h:Ax g g.next)(b:Ax L g.next)(c:L.other=g.other):(U g).pop (U (L.lay g.next o))=U (L.at (g.next+1)):=by
 show J (RR (L:=L.lay _ o) h b) ?_;delta GS.lay GS.at;congr 2;funext m;dsimp only;by_cases a:m<g.next;·show J (AG a) (J (AF (Av a)) rfl)
 ·show J (AF a) (J c rfl)
def Ax.up(h:Ax g k)(b:k<=m):Ax g m:=⟨AQ h.1 b,λa l c=>AZ (h.2 a l c) b⟩
def Wk.lay(w:Wk O g)(o:A'):Wk O (g.lay g.next o):=⟨Ax.up w.low (A1 _),w.l1,w.l2,w.l3,w.DW⟩
def Nw:Dl (Hb x s) (Bw z)=some (decide ((x,s)∈z)):=by
 have a:Bw z=A3 (z.map Cd):=by delta Bw A3;show J Bj ?_;rfl
 have b:∀u∈z.map Cd,Aj u=true:=λu d=>by(show AJ (Ar.mp d) λp j i=>?_;clear d;obtain rfl:=i);rfl
 show J a (?_:Dl (Val.bit x s).toV _=_);show J (Vp ?r b) ?_;congr 1;rw[Fh,LM b,decide_eq_true_iff,Ar];show⟨λc=>AJ c λp h a=>by clear c;cases a;show h,λh=>⟨_,h,rfl⟩⟩
def eO:∀{z},Dl (.bool b) (Bw z)=some false:=by intro z;induction z with|nil=>show rfl|cons p r a=>show(?_:b2 _ _ _=_);show J a rfl
def NJ(h:f.objs k=some (.list u)):BZ f .isin a (.ref k)=Dl a u:=b1 h rfl
def Vx(h:f.objs k=some (.list u)):BZ f .FE a (.ref k)=(Dl a u).map (!·):=AE (Option.map _) (NJ h)
def LN(h:f.objs k=some (.list u))(a:u.length<lim):E3 f (.ref k) .append [v]=some (.none,f.set k (.list (u++[v]))):=(b1 (JO h) (AG a):_)
def JT(h:f.objs k=some (.list u)):FQ f (.ref k) .append=true/\FQ f (.ref k) .sort=true/\FQ f (.ref k) .extend=true:=by show⟨?_,?_,?_⟩<;>·show(?_:((listAt f k).map _).isSome=_);show J (JO h) ?_;rfl
def Mh(n k:Nat)(g:GS)(d:List Val)(a:List (Nat×Bool))(e:Env):Prop:=∃b c,Cw (λx e f=>(BP (.nm 16) x e).bind λe=>Ao (AN T3 (n+1)) (ES K5 1) e f) none (A3 d) e (U (g.lay k (.list (Bw a))))=some (if(Dk a d).isSome then .next else .ret (.bool false),b,U (g.lay k (.list (Bw c))))/\(∀q,Dk a d=some q->q=c)/\b 52=some (.ref k)/\b 42=e 42
def PN(a:Dk b (t::d)=Dk c d)(h3:Ao (AN T3 (n+1)) (ES K5 1) (upd e 16 t.toV) (U (g.lay k (.list (Bw b))))=some (.next,upd e 16 t.toV,U (g.lay k (.list (Bw c)))))(h:Mh n k g d c (upd e 16 t.toV)):Mh n k g (t::d) b e:=Gr h λp j i l m o=>⟨p,j,a▸b1 (b1 rfl h3) ((AG trivial).trans i),a▸l,m,o⟩
def Sy(b:Dk a (t::d)=none)(h3:Ao (AN T3 (n+1)) (ES K5 1) (upd e 16 t.toV) (U (g.lay k (.list (Bw a))))=some (.ret (.bool false),upd e 16 t.toV,U (g.lay k (.list (Bw a)))))(h:e 52=some (.ref k)):Mh n k g (t::d) a e:=⟨upd e 16 t.toV,a,b▸b1 (b1 rfl h3) rfl,λq c=>AS (b▸c),h,rfl⟩
def Yk(y:Ax g k):∀(d)(h)(e),e 52=some (.ref k)->(∀t∈d,Aj t=true)->h.length+d.length<lim->Mh n k g d h e:=by intro d;induction d with|nil=>intro h e a C C;show⟨e,_,rfl,λq z=>(AP z).symm,a,rfl⟩|cons t d o=>intro h e a p j;have w:=p t AR;have r:=λu B=>p u (Ah _ B);have c:=Gh (o:=.list (Bw h)) y;rw[B9]at j;clear p;cases t with
  |int=>show AX w|sum=>show AX w|bool b=>cases b with|false=>show Sy rfl rfl a|true=>show PN rfl (OV [] ?r (.call (Tt (n:=n) _)<|.var a<|.cmp ((NJ c).trans eO) .nil)) (o _ _ a r (GU j))
  |bit x s=>
   by_cases i:(x,!s)∈h;·show Sy (AG i) (OV [] ?r (.call (LZ (n:=n) x s)<|.var a<|.cmp ((NJ c).trans (Nw.trans (AE _ (BC i)))) .nil)) a
   ·have v:=(NJ c).trans ((Nw).trans (AE _ (Bz i)));by_cases m:(x,s)∈h;·show PN ((AF i).trans (AE (λq=>Dk q d) (AG m))) (OV [] ?r (.call (LZ (n:=n) x s)<|.var a<|.cmp v<|.var a<|.cmp ((Vx c).trans (AE _ (Nw.trans (AE _ (BC m))))) .nil)) (o _ _ a r (GU j))
    ·have A:=(LN c (by unfold Bw;rw[Al];show Ai (A2 _ _) j)).trans (AE (λs=>some _) ((L1 y).trans (AE (λl=>U (g.lay k _)) (C8 (l₂:=[(x,s)])).symm)));show PN ((AF i).trans (AE (λq=>Dk q d) (AF m))) (OV [] ?r (.call (LZ (n:=n) x s)<|.var a<|.cmp v<|.var a<|.cmp ((Vx c).trans (AE _ (Nw.trans (AE _ (Bz m)))))<|.var a<|.pre (JT c).1<|.bm A .nil)) (o _ _ a r (by show lf j (by simp+arith)))
end
end
mutual
open A
def BN(g L:GS):Prop:=L.other=g.other/\L.next=g.next/\L.part=g.part
noncomputable def OO(z:List (Nat×Bool)):List V:=z.map λp=>V.bool p.2
end
section
mutual
open A
variable{n O:Nat}{g L c:GS}{f T:St}{P:Pg}{e:Env}
def BN.rfl:BN g g:=⟨Eq.refl _,Eq.refl _,Eq.refl _⟩
def BN.trans(h:BN g c)(a:BN c L):BN g L:=⟨a.1.trans h.1,a.2.1.trans h.2.1,a.2.2.trans h.2.2⟩
def BN.low(h:BN g L)(l:Ax g k):Ax L k:=⟨l.1,λm a b=>l.2 m a (h.2.2▸b)⟩
def Once.fr(h:Once g k H t E L):BN g L:=by rcases h with⟨_,rfl⟩|⟨_,_,rfl⟩<;>show⟨rfl,rfl,rfl⟩
def RS.fr(h:RS d g L):BN g L:=by rcases h with⟨_,rfl⟩|⟨_,_,_,_,_,_,rfl⟩<;>show⟨rfl,rfl,rfl⟩
def RS.wk(h:RS d g L)(w:Wk (O+1) g):Wk O L:=by
 rcases h with⟨_,rfl⟩|⟨_,_,_,_,_,_,rfl⟩;·show w.le (A1 _)
 ·show w.told _
def RS.XU(h:RS d (g.lay k o) L):∃i,RS d g i/\L=i.lay k o:=by
 rcases h with⟨a,rfl⟩|⟨u,l,a,b,j,m,rfl⟩;·show⟨g,.inl ⟨a,rfl⟩,rfl⟩
 ·show⟨_,.inr ⟨u,l,a,b,j,m,rfl⟩,rfl⟩
def Fw.fr:∀{a}{g:GS},Fw E a g L->BN g L:=by intro a;induction a with|nil=>intro g h;show h▸BN.rfl|cons p r b=>intro g h;show AJ h λc d i=>d.fr.trans (b i)
def eP:∀{z},Dl (.bool b) (OO z)=some (z.any λp=>p.2==b):=by intro z;induction z with|nil=>show rfl|cons p r a=>show(?_:b2 _ _ _=_);show J a rfl
def ja(u):Cf (.tup [.str "or",Gi u])=some (OA u):=m1 (DF ?r (DF (ID (Py 4 u)) ?r)) rfl
def ab(H):∀z:_,E4 (H+1) (Bw z)=some (z.map I'):=by intro z;induction z with|nil=>show rfl|cons p r a=>show DF ?r a 
def jX(z):Cf (.tup [.str "all",.tup (Bw z)])=some (EL z):=m1 (DF ?r (DF (ID (ab 3 z)) ?r)) rfl
def F2(h:AD P j e f=some (.ref k,f))(a:f.objs k=some (.list u)):C2 P (.val j) e f=some (u,some (k,.list u),f):=b1 h (m1 (b1 a rfl) rfl)
def N1(h:f.objs k=some (.list u)):Cb f .len [.ref k]=some (.int u.length,f):=m1 (b1 h rfl) rfl
def Ma(h:f.objs k=some (.list u)):Cb f .tuple [.ref k]=some (.tup u,f):=m1 (m1 (JO h) rfl) rfl
def Oj(i:Aj a=true)(j:Aj b=true):∀t∈[a,b],Aj t=true:=by
 intro t d;show mc d ?_ λd=>?_;·show i
 ·cases d with|head=>show j|tail _ h=>cases h
def fe{E}{o}:∀(a)(g:GS)(e),g.next=k->Wk (O+a.length) g->e 42=some (.ref 1)->e 30=some (.int E)->∀{b:Prop},(∀h L,Cw (λx e f=>(BP (.nm 16) x e).bind λe=>Ao (AN T3 (n+2)) [.expr (.Af (.var 42) 15 [.lst [.tup [.str "bit",.var 30,.bool false],.var 16]])] e f) (some (k,.list o)) (Bw a) e (U (g.lay k (.list o)))=some (.next,h,U (L.lay k (.list o)))->Fw E a g L->Wk O L->(∀i,i≠16->h i=e i)->b)->b:=by intro a;induction a with|nil=>intro g e d w d d b j;show j e g rfl rfl w λd d=>rfl|cons p r v=>intro g e B w s q b j;subst B;have u:=w.le (J B9 (Ag _));(show M8 (n:=n) (g:=g.lay _ (.list o)) (d:=[.bit E false,Cd p]) (u.lay _) (Oj rfl rfl) (by show(?_:2<64);decide) λI A m=>?_);show AJ m.XU λl h3 H=>?_;clear m;obtain rfl:=H;show v l (upd e 16 (Cd p).toV) h3.fr.2.1 (h3.wk u) s q λh z y C D G=>?_;show j h z (b1 (b1 (a:=upd e 16 (Cd p).toV) ?r (AI (D3 (B5 (AH s) ?r ?r (AL (KD (AL (CI (AL ?r (AL (AH q) ?r))) rfl)) ?r) A)) ?r)) ?_) ⟨l,h3,C⟩ D λi t=>(G i t).trans (AF t);dsimp only;show J (AG (Gh (h3.fr.low w.low))) y
end
end
section
mutual
open A
variable{n O:Nat}{g L a:GS}{f T:St}{P:Pg}{e:Env}
def Q1:BZ f .FE (.bool b) (.lst (OO z))=some !z.any λp=>p.2==b:=by show(?_:(Dl _ _).map _=_);show J eP ?_;rfl
end
end
section
mutual
open A
variable{n O:Nat}{g L c:GS}{f T:St}{P:Pg}{e:Env}
def Qn{u:List Val->List (Nat×Bool)->Option (List (Nat×Bool))->Prop}(t:∀k,u [] k (some k))(d:∀B l k o,B=.bool true\/Aj B=false->u l k o->u (B::l) k o)(y:∀l k,u (.bool false::l) k none)(w:∀x s l k,(x,!s)∈k->u (.bit x s::l) k none)(v:∀x s l k i o,¬(x,!s)∈k->(∀p,p∈i↔p∈k\/p=(x,s))->i.length<=k.length+1->u l i o->u (.bit x s::l) k o)(l:List Val):∀k,u l k (Dk k l):=by induction l with|nil=>show t|cons B l a=>intro k;cases B with|int=>show d _ _ _ _ (.inr rfl) (a k)|sum=>show d _ _ _ _ (.inr rfl) (a k)|bool b=>show b.rec (y _ _) (d _ _ _ _ (.inl rfl) (a k))|bit x s=>show iG (w x s l k) λh=>v x s l k _ _ h (λp=>iG (G:=λj=>p∈j↔p∈k\/p=(x,s)) (λh=>⟨.inl,λq=>q.elim id λr=>BX r▸h⟩) λm=>Cp.trans (or_congr FO As)) (iG (G:=λj=>List.length j<=k.length+1) (λm=>A1 _) λm=>AY Bp) (a _)
def Qo(l:List Val):∀(d q:List (Nat×Bool)),Dk d l=some q->q.length<=d.length+l.length:=Qn (u:=λl k o=>∀q,o=some q->q.length<=k.length+l.length) (λk q h=>AP h▸Ag _) (λu l k o b a q h=>LF (a q h)) (λl k q h=>AS h) (λx s l k b q h=>AS h) (λx s l k j o b b i a q h=>AQ (a q h) (AQ (Jx i _) (AY (Mv ..)))) l
def VZ(h:f.objs k=some (.list u)):BZ f .ne (.ref k) (.lst [])=some !u.isEmpty:=by show(?_:(DH 7 (((listAt f k).map _).getD _) _).map _=_);show J (JO h) (AE _ (eq_nil u))
def a0(h:e 52=some (.ref k))(a:(U g).objs k=some (.list (Bw z)))(b:z.length<lim):AD P (.comp (.idx (.var 16) (.int 1)) [.mk (.nm 16) (.val (.var 52)) []] [16,115]) e (U g)=some (.lst ((CY z).map λ(x:Nat)=>V.int x),U g):=by show J Bj (Gb (F2 (AH h) a) (λp _=>⟨_,by rfl,rfl⟩) b a)
def a3(h:e 52=some (.ref k))(a:(U g).objs k=some (.list (Bw z)))(b:z.length<lim):AD P (.comp (.idx (.var 16) (.int 2)) [.mk (.nm 16) (.val (.var 52)) []] [16,115]) e (U g)=some (.lst (OO z),U g):=Gb (F2 (AH h) a) (λp _=>⟨_,by rfl,rfl⟩) b a
def ay(h:e 52=some (.ref k))(a:(U g).objs k=some (.list (Bw z)))(b:z.length<lim):AD (AN T3 (n+1)) (.comp (.call 1 [.var 16]) [.mk (.nm 16) (.val (.var 52)) []] [16,115]) e (U g)=some (.lst (z.map λp=>(CS (Cd p)).toV),U g):=Gb (F2 (AH h) a) (λp _=>⟨_,by rfl,rfl⟩) b a
def AO.of(a:Dk [] d=q)(h:HI q g v L):AO d g v L:=by unfold AO;show a▸h
def bn(h:¬(a==b)=true):a=!b:=by cases a<;>cases b<;>first|rfl|show absurd rfl h
def Ws{z:List (Nat×_)}(h:z.any λp=>p.2==b=false):∀p∈z,p.2=!b:=λp a=>bn (List.any_eq_false.mp h p a)
def ie(a:Ax g k)(h:DC u=some ys):E3 (U (g.lay k (.list u))) (.ref k) .sort []=some (.none,U (g.lay k (.list ys))):=b1 (o:=listAt _ k) (JO (Gh a)) (m1 h (AE _ (L1 a)))
def TH(w:Wk (O+d.length+3) g)(Fa:∀t∈d,Aj t=true)(AC:d.length<63){At:Prop}(l:∀v L,Ae T3 (n+3) 46 [.ref 1,.lst (A3 d)] (U g)=some (Val.toV v,U (L.at (g.next+1)))->AO d g v L->BN g L->At):At:=by show Gr (Yk (n:=n+1) (g:=g) w.low d [] (upd (upd (upd (λJP=>none) 51 (.lst (A3 d))) 42 (.ref 1)) 52 _) ?r Fa (J List.length_nil (Br (show _<63 by show lf AC (by simp+arith)) (by decide)))) λZ q f T k C=>?_;have A:A8 (AN T3 (n+2)) (K5.body.getD 1 .fail) _ _=_:=Ea ?r f;clear f;have x:=Gh (g:=g) (o:=.list (Bw q)) w.low;cases s:Dk [] d with|none=>rw[s]at A;show l _ g (C3 [] ?r (.Dm (F3 w.low)<|.st A .nil) (IS w.low w.low rfl)) (AO.of s ⟨rfl,rfl⟩) BN.rfl|some V=>rw[s]at A;have H:=Qo d [] V s;rw[List.length_nil,Nat.zero_add]at H;cases T V s;clear T;cases q with|nil=>show l _ g (C3 [] ?r (.Dm (F3 w.low)<|.st A<|.var k<|.bi (N1 x)<|.var k<|.cmp (VZ x) .nil) (IS w.low w.low rfl)) (AO.of s ⟨rfl,rfl⟩) BN.rfl|cons p q=>cases q with|nil=>show l (Cd p) g (C3 [] ?r (.Dm (F3 w.low)<|.st A<|.var k<|.bi (N1 x)<|.var k<|.cmp (VZ x)<|.var k<|.idx (Lr (x:=0) x ?r) .nil) (IS w.low w.low rfl)) (AO.of s ⟨rfl,rfl⟩) BN.rfl|cons I r=>show AJ (W4 (Ai H (AZ AC (A1 _)))) λi R FM=>?_;have S:=R.length_eq;have D:=Gh (g:=g) (o:=.list (Bw i)) w.low;have j:Wk (O+i.length+3) g:=w.le (by show lf (AY S) (lf H (by simp+arith)));have Y:=Ai (AQ (AY S) H) AC;have c:_<lim:=Br Y (by decide);have E:=λ{Ch:Lg}{b:Bool}(h:i.any _=b)(o:A0 Ch)=>A0.Dm (D:=[]) (F3 w.low)<|.st A<|.var (g:=g.lay g.next (.list (Bw (p::I::r)))) k<|.bi (N1 x)<|.cmp (g:=g.lay g.next (.list (Bw (p::I::r)))) (e8 (a:=((Bw (p::I::r)).length:Int)) (Int.not_lt.mpr (Jr.mpr (Ay 2 _))))<|.var (g:=g.lay g.next (.list (Bw (p::I::r)))) k<|.pre (JT x).2.1<|.bm (ie w.low (u:=Bw _) (ys:=Bw i) FM)<|.ex (a0 (P:=AN T3 (n+2)) k D c)<|.ex (a3 (P:=AN T3 (n+2)) k D c)<|.cmp ((Q1 (f:=U (g.lay g.next (.list (Bw i)))) (b:=true)).trans (AE (λb=>some !b) h))<|.var (g:=g.lay g.next (.list (Bw i))) C o;have l:=λv L a b Db=>l v L a (AO.of s ⟨i,R,b⟩) Db;cases y:i.any λp=>p.2==true with|false=>have P:=Ws y;show N' (n:=n) (H:=Bf) (j.lay _) (ja (CY i)) (λz u m=>l _ g (C3 [] ?r (E y<|.call m .nil) (IS j.low j.low rfl)) (.Kd P z (.inl ⟨u,rfl⟩) rfl) BN.rfl) λu m=>l _ (CU (withVar g (OA (CY i)) Bf) _) (C3 [] ?r (E y<|.call m<|.var C<|.call (G7 (g:=(withVar g _ Bf).lay g.next _) (t:=OB (CY i) _) j.t0) .nil) (IS j.low j.low rfl)) (.Kd P _ (.inr ⟨u,rfl,rfl⟩) rfl) ⟨rfl,rfl,rfl⟩|true=>show N' (n:=n) (H:=Bf) (j.lay _) (jX i) (λz u m=>l _ g (C3 [] ?r (E y<|.var k<|.bi (Ma D)<|.call m .nil) (IS j.low j.low rfl)) (.hit z rfl u rfl) BN.rfl) λu m=>?_;·cases Q:i.any _ with|false=>show l _ (CU (withVar g (EL i) Bf) _) (C3 [] ?r (E y<|.var k<|.bi (Ma D)<|.call m<|.cmp ((Q1 (b:=false)).trans (AE (λb=>some !b) Q))<|.var C<|.call (G7 (g:=(withVar g (EL i) Bf).lay g.next _) (t:=M0 (CY i) _) j.t0) .nil) (IS j.low j.low rfl)) (.LL (Ws Q) _ (.inr ⟨u,rfl,rfl⟩) rfl) ⟨rfl,rfl,rfl⟩|true=>show fe (n:=n) (O:=O+1) (E:=g.vars.length) (o:=Bw i) i (withVar g (EL i) Bf) (upd (upd (upd (upd Z 20 (Gi (CY i))) 71 (.lst (OO i))) 30 _) 49 (.bool true)) rfl ((j.var (EL i) Bf).le (by show by simp+arith)) C ?r λM2 B EQ W M e=>?_;have F:=W.fr;have G:B.next=g.next:=F.2.1;have Ix:(U (B.lay g.next (.list (Bw i)))).objs g.next=some (.list (Bw i)):=Gh (G▸M.low);have K:=(e 30 (by decide)).trans rfl;have IN:Wk (O+1) (B.lay g.next (.list (Bw i))):=G▸M.lay (.list (Bw i));show M8 (n:=n) (d:=.bit g.vars.length true::i.map λp=>CS (Cd p)) (O:=O) (G▸M.lay (.list (Bw i))) (Bo.mpr ⟨rfl,λt Fs=>AJ (Ar.mp Fs) λp _ Do=>Do▸rfl⟩) (by rw[B9,Al];show Nat.lt_succ_of_le Y) λH1 Ev Gc=>AJ Gc.XU λFS X Go=>?_;have Fk:Cc (U (B.lay g.next (.list (Bw i)))) .add (.lst [_]) (.lst (i.map λp=>(CS (Cd p)).toV))=some (.lst (A3 (.bit g.vars.length true::i.map λp=>_))):=(AG (by rw[Al];show Br (show 1+_<64 by show lf Y (by simp+arith)) (by decide))).trans (by unfold A3;show J Fq ?_;show J Bj ?_;rfl);have N:=BN.trans F X.fr;show l _ FS (C3 [] ?r (E y<|.var k<|.bi (Ma D)<|.call m<|.cmp ((Q1).trans (AE (λb=>some !b) Q))<|.st (Ea (F2 (AH (e:=upd (upd (upd (upd Z 20 _) 71 _) 30 _) 49 _) (i:=52) k) (Gh (g:=withVar g (EL i) Bf) j.low)) EQ)<|.var ((e 42 (by decide)).trans C)<|.var K<|.ex (ay ((e 52 (by decide)).trans k) (Gh (G▸M.low)) c)<|.bin Fk<|.call Ev<|.var K .nil) (Go▸IS j.low (N.low j.low) N.1)) (.mix _ rfl u rfl B W X) N
end
end
mutual
open A
noncomputable def cr(g:GS):GS:=⟨g.vars,g.BD,g.made,none,λa=>none,0⟩
structure Up(g g':GS):Prop where
 vs:∃m,g'.vars=g.vars++m
 ts:∃m,g'.BD=g.BD++m
inductive VO(g:GS)(w:Val)(x:Nat)(g':GS):Prop
 |one (h:single w.ps w.c=some x) (hg:g'=g)
 |new (h:single w.ps w.c=none) (h0:w.ps≠[]) (ho:Once g (sumK w.ps w.c) [BQ g w] (λz=>Row.toV ⟨true,BY w.ps++[-1],keys w.ps++[z], -w.c⟩) x g')
 |con (h0:w.ps=[]) (h:(BK g.made (sumK [] w.c)=some (.int x)/\g'=g)\/(BK g.made (sumK [] w.c)=none/\x=g.vars.length/\g'=withVar g (sumK [] w.c) [(w.c,w.c)]))
def FP:List Val->List Nat->GS->GS->Prop|[],b,g,a=>b=[]/\a=g|w::d,b,g,a=>∃x r c,b=x::r/\VO g w x c/\FP d r c a
end
section
mutual
open A
variable{n O:Nat}{g L i:GS}{f T:St}{P:Pg}{e:Env}
def Up.rfl:Up g g:=⟨⟨[],(Bv _).symm⟩,⟨[],(Bv _).symm⟩⟩
def Up.trans(h:Up g i)(l:Up i L):Up g L:=by obtain⟨⟨a,c⟩,⟨b,j⟩⟩:=h;obtain⟨⟨m,d⟩,⟨o,k⟩⟩:=l;show⟨⟨_,by(show J d ?_;show J c ?_;rewrite[DN];rfl)⟩,⟨_,by(show J k ?_;show J j ?_;rewrite[DN];rfl)⟩⟩
def Up.told(t:V):Up g (CU g t):=⟨⟨[],(Bv _).symm⟩,⟨_,Eq.refl _⟩⟩
def Up.var(k:CV)(H:BR):Up g (withVar g k H):=⟨⟨_,Eq.refl _⟩,⟨[],(Bv _).symm⟩⟩
def Up.FU(h:Up g L)(c:Ad g x≠[]):Ad L x=Ad g x:=by show Ac (P8 c) λs a=>Ac h.vs λm b=>?_;unfold Ad;show J b (J (List.getElem?_append_left (Jt.mp a).1) ?_);rfl
def Up.ok(h:Up g L)(c:Cm g j):Cm L j:=λp d=>by show BG (c p d) λa b h3=>J (h.FU a) ⟨a,b,h3⟩ 
def WV(h:Ax g g.next)(w:BN g L):(U g).pop (U L)=U L:=by show J (EV h (w.low h) λm a=>Ga w.1 m) (Mine.AU w.1 rfl)
def Once.up(h:Once g k H t E L):Up g L:=by
 rcases h with⟨_,rfl⟩|⟨_,_,rfl⟩;·show Up.rfl
 ·show(Up.var k H).trans (Up.told _)
def TT.up(h:TT g r v L):Up g L:=by
 rcases h with⟨x,_,_,_,_,rfl⟩|⟨z,h,_⟩;·show Up.rfl
 ·show h.up
def RT.split(h:RT g j w v L):(∃b,rowF j (BQ g w).1 (BQ g w).2 w.ps w.c=.so b/\v=.bool b/\L=g)\/∃r B,rowF j (BQ g w).1 (BQ g w).2 w.ps w.c=.row r/\TT g (turn r).1 B L/\v=if(turn r).2 then CS B else B:=by unfold RT at h;cases a:rowF j _ _ _ _ with|so b=>rw[a]at h;show .inl ⟨b,rfl,h⟩|row r=>rw[a]at h;show .inr ⟨r,_,rfl,h.choose_spec⟩
def RT.up(h:RT g j w v L):Up g L:=by
 rcases h.split with⟨_,_,_,rfl⟩|⟨_,_,_,h,_⟩;·show Up.rfl
 ·show h.up
def RT.wk(h:RT g j w v L)(k:Wk (O+2) g):Wk O L:=by
 rcases h.split with⟨_,_,_,rfl⟩|⟨_,_,_,h,_⟩;·show k.le (A2 _ _)
 ·show h.wk k
def RT.fr(h:RT g j w v L):BN g L:=by
 rcases h.split with⟨_,_,_,rfl⟩|⟨_,_,_,h,_⟩;·show BN.rfl
 ·show h.other
def RT.DU(h:RT g j w v L):Aj v=true:=by
 rcases h.split with⟨_,_,rfl,_⟩|⟨r,u,_,a,rfl⟩;·rfl
 ·show Eb a.bit λx s b=>?_;clear a h;obtain rfl:=b;split<;>rfl
def RS.up(h:RS d g L):Up g L:=by
 rcases h with⟨_,rfl⟩|⟨_,_,_,_,_,_,rfl⟩;·show Up.rfl
 ·show Up.told _
def VO.fr(h:VO g w x L):BN g L:=by
 rcases h with⟨_,rfl⟩|⟨_,_,h⟩|⟨_,⟨_,rfl⟩|⟨_,_,rfl⟩⟩;·show BN.rfl
 ·show h.fr
 ·show BN.rfl
 ·show⟨rfl,rfl,rfl⟩
def VO.up(h:VO g w x L):Up g L:=by
 rcases h with⟨_,rfl⟩|⟨_,_,h⟩|⟨_,⟨_,rfl⟩|⟨_,_,rfl⟩⟩;·show Up.rfl
 ·show h.up
 ·show Up.rfl
 ·show Up.var _ _
def VO.wk(h:VO g w x L)(k:Wk (O+2) g):Wk O L:=by
 rcases h with⟨_,rfl⟩|⟨_,_,h⟩|⟨_,⟨_,rfl⟩|⟨_,_,rfl⟩⟩;·show k.le (A2 _ _)
 ·show h.wk k
 ·show k.le (A2 _ _)
 ·show(k.le (A1 _)).var _ _
def LQ(g:GS):∀(a)(lo b),lo<=b->(Bc g a lo b).1<=(Bc g a lo b).2:=by intro a;induction a with|nil=>intro c c h;show h|cons c a d=>showλlo b h=>d _ _ (Jp h (BE (Int.min_le_left _ _) (Int.le_max_left _ _)))
def Wu{a:List (Nat×Int)}{c:Int}{x:Nat}(h:single a c=some x):a=[(x,1)]/\c=0:=by cases a with|nil=>show AS h|cons p r=>cases r with|nil=>show(Classical.em (p.2=1/\c=0)).elim (λq=>⟨AE (λz=>[z]) (Prod.ext (AP ((AG q:single [p] c=_).symm.trans h)) q.1),q.2⟩) λq=>AS ((AF q:single [p] c=_).symm.trans h)|cons=>show AS h
def M'(k:Wk (O+2) g)(l:Cm g w.ps)(q:w.ps.length+1<lim){j:Prop}(h:∀x L,Ae T3 (n+4) 57 [.ref 1,w.toV] (U g)=some (.int (x:Nat),U L)->VO g w x L->j):j:=by have d:=J6 (n:=n+1) (f:=U g) w;cases c:single w.ps w.c with
 |some x=>show AV (Wu c) λo p=>?_;rw[o,p]at d;show h x g (aM k.low d) (.one c rfl)
 |none=>cases a:BK _ _ with|some z=>
   show Ac (k.DW _ _ a) λx r=>?_;obtain rfl:=r;show h x g (aJ k.low d c l (LQ g _ _ _ (BB _)) a) ?_;by_cases b:w.ps=[];·rw[b]at a;show .con b (.inl ⟨a,rfl⟩)
   ·show .new c b (.inl ⟨a,rfl⟩)|none=>
   have m:=Ai (A2 _ _) k.l1;have l2:=Ai (A2 _ _) k.l2;by_cases b:w.ps=[];·rw[b]at d a;show h _ _ (aI k.low d a m l2) (.con b (.inr ⟨a,rfl,rfl⟩))
   ·show h _ _ (aK k.low d c b l (LQ g _ _ _ (BB _)) a m l2 (Ai (A2 _ _) k.l3) q) (.new c b (.inr ⟨a,rfl,rfl⟩))
def FP.facts:∀{d}{u}{g:GS},FP d u g L->BN g L/\Up g L/\(Wk (O+2*d.length) g->Wk O L):=by intro d;induction d with|nil=>intro u g h;show J h.2 ⟨BN.rfl,Up.rfl,id⟩|cons w d l=>intro u g h;show Il h λx r i o j m=>BG (l m) λa b c=>⟨j.fr.trans a,j.up.trans b,λk=>c (j.wk (k.le (J B9 (Ag _))))⟩
def j9:∀(b)(g:GS),Wk (O+2*b.length) g->(∀w∈b,Cm g w.ps/\w.ps.length+1<lim)->∀{c:Prop},(∀u L,Dr (λx f=>(BP (.nm 12) x (clear (upd (upd (λo=>none) 20 (.lst (A3 a))) 42 (.ref 1)) [12,115])).bind λe=>(I6 (AN T3 (n+4)) [] e f).bind λ(t,f)=>match t with|true=>FY (AN T3 (n+4)) (λe f=>AD (AN T3 (n+4)) (.Af (.var 42) 6 [.var 12]) e f) [] e e f|false=>some ([],f)) none (A3 b) (U g)=some (u.map λ(x:Nat)=>V.int x,U L)->FP b u g L->c)->c:=by intro b;induction b with|nil=>intro g o o c j;show j [] g rfl ⟨rfl,rfl⟩|cons w b p=>intro g k h c j;show AV (h w AR) λv y=>M' (n:=n) (k.le (J B9 (Ag _))) v y λx i q d=>p i (d.wk (k.le (J B9 (Ag _)))) (λm l=>⟨d.up.ok (h m (Ah _ l)).1,(h m (Ah _ l)).2⟩) λu s r z=>j _ s (b1 (b1 ?r (b1 (a:=(true,_)) ?r (m1 (B5 ?r ?r ?r rfl q) ?r))) (by dsimp only;show J (AG (by trivial)) ?_;show m1 r rfl)) ⟨x,u,i,rfl,d,z⟩
def aO(k:Wk (O+2*a.length) g)(l:∀w∈a,Cm g w.ps/\w.ps.length+1<lim)(j:a.length<lim){b:Prop}(o:∀u L,Ae T3 (n+5) 58 [.ref 1,.lst (A3 a)] (U g)=some (Gi u,U L)->FP a u g L->b):b:=by show j9 (n:=n) (a:=a) a g k l λu L c h=>o u L ((DR ?r ?r (Ap (BL (Bk (AL (v:=.lst _) ?_ ?r) ?r)))).trans (J (WV k.low (FP.facts (O:=O) h).1) rfl)) h;show b1 (b1 ?r c) ?_;dsimp only;(show J (AG (by(rewrite[Al];show J ((by intro a;induction a with|nil=>intro u g h;show J h.1 ?_;rfl|cons w a m=>intro u g h;(show Il h λx r i p q d=>?_;(try clear h);obtain rfl:=p);(show J B9 ?_;show J B9 ?_;show J (m d) ?_;rfl):∀{a:List Val}{u:List Nat}{g:GS},FP a u g L->u.length=a.length) h) ?_);show j)) ?_;rfl)
end
end
mutual
open A
def RQ(g:GS)(j:Bool)(w:Val)(L:GS):Prop:=match rowF j (BQ g w).1 (BQ g w).2 w.ps w.c with|.so true=>L=g|.so false=>L=CU g (LX [] [])|.row r=>L=CU g r.toV
def noteG(g:GS)(t:Val):GS:=match g.part with|some (m,l)=>if Dq t (.bool true)then g else{g with part:=some (m,l++[t.toV])}|none=>g
def MZ:Val->CV|.bit x s=>I' (x,s)|.bool b=>.int (Bu b)|_=>.int 0
noncomputable def bN(H:BR):CV:=.tup (H.map λp=>.tup [.int p.1,.int p.2])
def Ib(A:Nat)(t:Val)(H:BR):CV:=.tup [.str "stand",.int A,MZ t,bN H]
def IP(b:Nat)(r:Row):V:=.tup [.str "imp",.int b,r.toV]
inductive SD(g:GS)(y:Nat)(t:Val)(d:BR)(z:Nat)(g':GS):Prop
 |hit (h:BK g.made (Ib y t d)=some (.int z)) (hg:g'=g)
 |new (h:BK g.made (Ib y t d)=none) (hz:z=g.vars.length) (x1:Nat) (g1:GS) (x2:Nat) (g2:GS) (v1:VO (withVar g (Ib y t d) d) t x1 g1) (v2:VO (CU g1 (IP x1 ⟨true,[1, -1],[z,y],0⟩)) (CS t) x2 g2) (hg:g'=CU g2 (IP x2 ⟨true,[1],[z],CF d⟩))
end
section
mutual
open A
variable{n O:Nat}{g L c:GS}{f T:St}{P:Pg}{e:Env}
def C4(h:a.natAbs<=1000000):IntMulOk a b:=IntMulOk.of_left (intBits_le_64 (Fo (Co _) (Vv h)) (HQ (Vw h) (Co _)))
def aC(j)(w)(k:Wk (O+1) g)(l:Cm g w.ps)(i:w.ps.length<lim)(h:∀a∈BY w.ps,a.natAbs<1000000/\a≠0):∃L,Ae T3 (n+5) 50 [.ref 1,DV j,w.toV] (U g)=some (.none,U L)/\RQ g j w L:=by unfold RQ BQ;have d:=Po (n:=n) j w k.low l i h;generalize rowF j _ _ _ _=R at d⊢;cases R with
 |so b=>cases b with|true=>show⟨g,HB [] ?r (.call d .nil) k.low rfl rfl,rfl⟩|false=>show⟨CU g _,HB [] ?r (.call d<|.call (G7 (t:=LX [] []) k.t0) .nil) k.low rfl rfl,rfl⟩
 |row r=>show⟨CU g _,HB [] ?r (.call d<|.call (G7 (t:=r.toV) k.t0) .nil) k.low rfl rfl,rfl⟩
def RQ.facts(h:RQ g j w L):BN g L/\Up g L/\(Wk (O+1) g->Wk O L):=by
 unfold RQ at h;have a:∀t,L=CU g t->BN g L/\Up g L/\(Wk _ g->Wk O L):=λt j=>J j ⟨⟨rfl,rfl,rfl⟩,Up.told t,λk=>k.told t⟩;split at h;·show J h ?_;show⟨BN.rfl,Up.rfl,λk=>k.le (A1 _)⟩
 ·show a _ h
 ·show a _ h
def QB(h:AD P a e f=some (v,T)):AD P (.isNone a) e f=some (.bool (DB v),T):=b1 h rfl
def TP(k:Wk (O+1) g)(d:g.part=none)(i:Aj t=true){a:Prop}(l:∀L,Ae T3 (n+3) 40 [.ref 1,t.toV] (U g)=some (.none,U L)->RS [t] g L->a):a:=by show M8 (n:=n) k (λu j=>J (As.mp j) i) (by show(?_:1<64);decide) λL b h=>l L ?_ h;show HB [] ?r (.attr (m:=1) (a:=0) (as:=[(7,_),(8,_),(0,Fd _)]) ?r (AE (λp=>some (Fd p)) d)<|.call b .nil) k.low h.fr.1 h.fr.2.2
def RI(b:g.part=some (m,l))(a:6<=m):Dn g m=some (.list l):=by obtain⟨j,rfl⟩:∃j,m=j+6:=⟨_,OM a⟩;show(?_:Cr g _=_);unfold Cr;show J b (AG rfl)
def iQ{m:Nat}{l a:List V}(d:g.part=some (m,l))(h:6<=m):(U g).set m (.list a)=U {g with part:=some (m,a)}:=Ij (p:=some (m,a)) (o:=g.other) (RI rfl h) (λi b=>(OC d).trans ((AF b).trans ((OC (g:={g with part:=some (m,a)}) rfl).trans (AF b)).symm)) (.inr (AE Fd d:Fd g.part=.ref m))
def Pl(j:Ax g g.next)(d:g.part=some (m,l))(r:6<=m)(w:l.length<lim)(x:Aj t=true):Ae T3 (n+3) 40 [.ref 1,t.toV] (U g)=some (.none,U (noteG g t)):=by
 have p:∀{ρ},ρ 42=some (.ref 1)->AD (AN T3 (n+2)) (.attr (.var 42) 0) ρ (U g)=_:=λh=>IG (AH h) ?r (by show(?_:some (Fd _)=_);show J d ?_;rfl);have y:∀{ρ},_->AD (AN T3 (n+2)) (.cmp .ne (.var 16) (.bool true)) ρ (U g)=_:=λh=>Aq (AH h) ?r (Qy (b:=.bool _) x ?r);have i:(noteG g t).other=g.other:=by unfold noteG;show J d ?_;dsimp only;split<;>rfl
 have:=Uk (w:=40) (D:=[_,_]) ?r ?r<|AI (Bq (QB (p ?r)) ?r (AI (by have k:=y (ρ:=upd (upd (λo=>none) 16 _) 42 (.ref 1)) ?r;unfold noteG;show J d ?_;dsimp only;cases s:Dq t _ with|true=>rw[s]at k;show Bq k ?r ?r|false=>rw[s]at k;have i:=RI d r;show BS k ?r (AI (D3 (G' (p ?r) (JT i).1 rfl ((LN i w).trans (J (iQ d r) rfl)))) ?r):A8 (AN T3 (n+2)) (.ite (.cmp .ne (.var 16) (.bool true)) [.expr (.bm (.attr (.var 42) 0) .append [.var 16])] []) (upd (upd (λo=>none) 16 t.toV) 42 (.ref 1)) (U g)=some (.next,upd (upd (λo=>none) 16 t.toV) 42 (.ref 1),U (noteG g t))) ?r)) ?r
 (show J this ?_;show J (EV j (by
   unfold noteG;show J d ?_;dsimp only;split;·show j
   ·show⟨j.1,λa b q=>by(show AV (s2 q) λu v=>?_;clear q;subst u v);show j.2 _ _ d⟩) λm o=>Ga i m) ?_;show Mine.AU i ?_;rfl)
def TM(w:Wk (O+2) g)(l:Cf (.tup a)=some k)(m:a.length<60){h:Prop}(i:∀E L,Ae T3 (n+3) 38 [.ref 1,.tup a,C0 H] (U g)=some (C7 [(E,1)] 0,U L)->Once g k H (λE=>.tup (a++[.int E])) E L->h):h:=N' w l (λE d b=>i E g (HB [] ?r (.call b .nil) w.low rfl rfl) (.inl ⟨d,rfl⟩)) λd b=>have j:Cc _ .add (.tup a) (.tup [.int g.vars.length])=_:=AG (Br (Nat.add_lt_add_right m 1) (by decide));i _ (CU (withVar g k H) _) (HB [] ?r (.call b<|.bin j<|.call (G7 (g:=withVar g k H) w.t0) .nil) w.low rfl rfl) (.inr ⟨d,rfl,rfl⟩)
def aa(H)(a:Aj t=true):G8 (H+1) t.toV=some (MZ t):=by cases t with|int=>show AX a|sum=>show AX a|bit x s=>rfl|bool b=>rfl
def ae(n):∀H:BR,E4 (n+1) (H.map λp=>V.tup [.int p.1,.int p.2])=some (H.map λp=>CV.tup [.int p.1,.int p.2]):=by intro H;induction H with|nil=>show rfl|cons p r a=>show DF ?r a 
def jb{A:Nat}(a:Aj t=true):Cf (.tup [.str "stand",.int A,t.toV,C0 H])=some (Ib A t H):=m1 (DF ?r (DF ?r (DF (aa 4 a) (DF (ID (ae 3 H)) ?r)))) rfl
def XN(a:Aj B=true):B.ps.length+1<lim:=by cases B with|bit x s=>cases s<;>show(by decide:2<lim)|bool b=>show(by decide:1<lim)|int=>show AX a|sum=>show AX a
def Zp(d:Aj t=true)(h:Cm g t.ps):Cm g (CS t).ps:=by cases t with|int=>show AX d|sum=>show AX d|bool b=>show h|bit x s=>cases s with|true=>showλp a=>As.mp a▸⟨(h _ AR).1,C4 (a:=-1) (by decide),C4 (a:=-1) (by decide)⟩|false=>showλp a=>As.mp a▸⟨(h _ AR).1,C4 (a:=1) (by decide),C4 (a:=1) (by decide)⟩
def aG{A:Nat}{H:BR}(w:Wk (O+7) g)(a:Aj t=true)(z:H≠[])(m:Cm g t.ps){k:Prop}(o:∀E L,Ae T3 (n+5) 42 [.ref 1,.int A,t.toV,C0 H] (U g)=some (.int (E:Nat),U L)->SD g A t H E L->BN g L->Up g L->Wk O L->k):k:=by show N' w (jb a) (λE j i=>o E g (HB [] ?r (.call i .nil) w.low rfl rfl) (.hit j rfl) BN.rfl Up.rfl (w.le (A2 _ _))) λj i=>?_;have p:=Up.var (g:=g) (Ib A t H) H;show M' (n:=n) (w.var _ H) (p.ok m) (XN a) λu c x b=>?_;let t1:=IP u ⟨true,[1,-1],[g.vars.length,A],0⟩;have q:=b.wk (w.var _ H);have r:=(q.le (Ag _)).told t1;have u1:=(p.trans b.up).trans (Up.told t1);show M' (n:=n) r (Zp a (u1.ok m)) (XN (NY a)) λv l y d=>?_;let t2:=IP v ⟨true,[1],[g.vars.length],CF H⟩;have s:=d.wk r;have h:BN g (CU l t2):=BN.trans b.fr d.fr;show o _ _ (HB [] ?r (.call i<|.call x<|.call (G7 (t:=t1) q.t0)<|.call (M6 a)<|.call y<|.call (TL z)<|.call (G7 (t:=t2) s.t0) .nil) w.low h.1 h.2.2) (.new j rfl u c v l b d rfl) h ((u1.trans d.up).trans (Up.told _)) (s.told _)
end
end
mutual
open A
noncomputable def EW(I:BR)(v:Int):BR:=match I.getLast? with|none=>[(v,v)]|some p=>if v<=p.2+1 then if p.2<v then I.dropLast++[(p.1,v)]else I else I++[(v,v)]
def JG(p:List Int):BR:=(sortI p).foldl EW []
def GH(D:Int)(I:BR):Prop:=I≠[]/\∀p∈I,CF I<=p.1/\p.1<=p.2/\p.2<=CH I/\-D<=p.1/\p.2<=D
def E8(v:Int)(I:BR):Prop:=∃p∈I,p.1<=v/\v<=p.2
end
section
mutual
open A
variable{n O:Nat}{g L b:GS}{f T:St}{P:Pg}{e:Env}
def aB(s:I.length<lim):Ae T3 (n+1) 14 [.ref f.next,.int v,.int v] (f.new (.list (I.map Aw)))=some (.none,f.new (.list ((EW I v).map Aw))):=by
 have d:=Hq f (.list (I.map Aw));have l:(I.map Aw).length=_:=Al ..;let h:=upd (upd (upd (λu=>none) 5 (.int v)) 4 (.int v)) 6 (.ref f.next);have r:A8 (AN T3 n) (.expr (.bm (.var 6) _ [.tup [.var 4,.var 5]])) h _=some (_,h,f.new (.list ((I++[(v,v)]).map Aw))):=D3 (G' rfl (JT d).1 ?r ((LN d (J l s)).trans (by(rewrite[Rf];show J C8 ?_);rfl)));have o:AD (AN T3 n) (.cmp .gt (.bi .len [.var 6]) (.int 0)) h _=_:=Aq (Bk rfl ((N1 d).trans (J l rfl))) ?r ?r;clear s;rcases List.eq_nil_or_concat I with rfl|⟨a,p,rfl⟩;·show Lj ?r ?r (AI (Bq (KC (I7 o ?r)) ?r (AI r ?r)) ?r)
 ·rw[List.concat_eq_append]at*;have m:((a++[p]).map Aw).length=_:=J l (J Bp rfl);have t:DT (f.new (.list ((a++[p]).map Aw))) (.ref f.next) (.int (-1))=some (Aw p):=by show b1 d (?_:(place ((a++[p]).map Aw).length (-1)).bind _=_);(show J (RK (by show J m ?_;show GV _)) ?_;show Mine.AU (by show J C8 ?_;show Mr ..:((a++[p]).map Aw).getLast?=some (Aw p)) ?_;show J List.getLast?_eq_getElem? ?_);rfl
  have q:AD (AN T3 n) (.idx (.var 6) (.neg (.int 1))) h (f.new (.list ((a++[p]).map Aw)))=_:=BM rfl ?r t;have k:AD _ (.idx (.idx (.var 6) (.neg (.int 1))) (.int 1)) h _=_:=BM q ?r rfl;rw[BC (J Bp (J Iz (JK (Ay _ _))))]at o;have c:=IF o (Aq (c:=.le) (a:=.var 4) rfl (BA (c:=.add) (b:=.int 1) k ?r ?r) ?r);show J (by unfold EW;(show J Mr ?_;show J List.dropLast_concat ?_;rfl):EW (a++[p]) v=if v<=p.2+1 then if p.2<v then a++[(p.1,v)]else a++[p]else a++[p]++[(v,v)]) ?_;by_cases i:v<=p.2+1
  ·show J (AG i) ?_;replace c:=BC i▸c;by_cases j:p.2<v;·show J (AG j)<|Lj ?r ?r (AI (BS c ?r (AI (BS (Aq (AH ?r) k (QM j)) ?r (AI (Az (CI (AL (BM q ?r rfl) rfl)) (Kg rfl ?r (by show b1 rfl (b1 d (?_:(place _ _).map _=_));(show J (RK (by show J m ?_;show GV _)) ?_;show J m ?_);show(?_:some ((f.new _).set _ (.list (((a++[p]).map Aw).set a.length _)))=_);(rewrite[Rf];show J C8 ?_;show J C8 ?_;show J (List.set_append_right _ _ (by rw[Al];show Ag _)) ?_;rewrite[Al,Nat.sub_self]);rfl:F9 (f.new (.list ((a++[p]).map Aw))) (.ref f.next) (.int (-1)) (Aw (p.1,v))=some (f.new (.list ((a++[(p.1,v)]).map Aw)))))) ?r)) ?r)) ?r)
   ·show J (AF j) (Lj ?r ?r (AI (BS c ?r (AI (Bq (Aq (AH ?r) k (U2 j)) ?r ?r) ?r)) ?r))
  ·show J (AF i) ?_;replace c:=Bz i▸c;show Lj ?r ?r (AI (Bq c ?r (AI r ?r)) ?r)
def Wb(I:BR)(v):(EW I v).length<=I.length+1:=by
 rcases List.eq_nil_or_concat I with rfl|⟨a,p,rfl⟩;·show Ag _
 ·show J List.concat_eq_append ?_;unfold EW;show J Mr ?_;show J List.dropLast_concat ?_;dsimp only;split;·split<;>simp
  ·simp
def dX:∀(p:List _)(I:BR)(e),I.length+p.length<lim->e 6=some (.ref f.next)->∀{d:Prop},(∀c,Cw (λx e f=>(BP (.nm 8) x e).bind λe=>Ao (AN T3 (n+1)) (ES Sf 1) e f) none (p.map V.int) e (f.new (.list (I.map Aw)))=some (.next,c,f.new (.list ((p.foldl EW I).map Aw)))->c 6=some (.ref f.next)->d)->d:=by intro p;induction p with|nil=>intro I e o a;showλh=>h e rfl a|cons v p j=>intro I e i a d;intro h;(show j (EW I v) (upd e 8 (.int v)) (by have:=Wb I v;show lf this (lf i (by simp+arith))) a λc k l=>?_);have m:=aB (n:=n) (f:=f) (I:=I) (v:=v) (Ai (A2 _ _) i);show h c (b1 (b1 (a:=upd e 8 _) ?r (AI (D3 (BI (AL (AH a) ?r) m)) ?r)) (by dsimp only;show J (AG (by trivial)) ?_;show k)) l
def Z7(a:p.length<64):Ae T3 (n+2) 3 [.tup (p.map V.int)] f=some (C0 (JG p),f.bump):=by show dX (n:=n) (f:=f) _ [] (upd (upd (λh=>none) 7 (.tup (p.map V.int))) 6 _) (J (sortI_perm _).length_eq (Br (show _<64 by show lf a (by simp+arith)) (by decide))) ?r λi c d=>?_;have:=DR (w:=3) (D:=[_]) (v:=C0 (JG p)) ?r ?r<|AI ?r<|AI (Ea (EC (Bk rfl (by show(?_:((DC _).map _).map _=_);show J (sorted_ints a) ?_;rfl)) ?r) c)<|Ap (BL (Bk (AL (AH d) ?r) (Ma (Hq f _))));show J this ?_;rewrite[ML];rfl
def bM{c:BR}(h:p.1=q.1):CF (c++[p])=CF (c++[q]):=by cases c with|nil=>show h|cons a r=>rfl
def bH(a:BR)(p):CH (a++[p])=p.2:=by unfold CH;(show J Mr ?_;rfl)
def Ml(D:Int)(I:BR)(B:Int)(done:List Int):Prop:=∃c a,I=c++[(a,B)]/\(∀p∈I,CF I<=p.1/\p.1<=p.2/\p.2<=B/\-D<=p.1/\p.2<=D)/\∀v∈done,E8 v I
def bB{B}(h:Ml D I B done)(k:B<=v)(C:-D<=v)(z:v<=D):Ml D (EW I v) v (v::done):=by
 show Dc h λi a G l p=>?_;(try clear h);obtain rfl:=G;have c:EW (i++[(a,B)]) v=if v<=B+1 then if B<v then i++[(a,v)]else i++[(a,B)]else i++[(a,B)]++[(v,v)]:=by unfold EW;show J Mr ?_;show J List.dropLast_concat rfl
 show J c ?_;have j:=l _ (Bx _ AR);by_cases y:v<=B+1
 ·show J (AG y) ?_;by_cases o:B<v
  ·show J (AG o)<|⟨i,a,rfl,λq c=>?_,λw d=>?_⟩
   ·show J (bM (p:=(a,v)) (q:=(a,B)) rfl) ?_;rcases Cp.mp c with h|h;·show HG (l q ((CZ _) h)) λr s t u x=>⟨r,s,BE t k,u,x⟩
    ·show J (As.mp h) ?_;show⟨j.1,BE j.2.1 k,BB _,j.2.2.2.1,z⟩
   ·show mc d ?_ λd=>?_;·show⟨_,Bx _ AR,BE j.2.1 k,BB _⟩
    ·show B3 (p w d) λq c m A=>?_;rcases Cp.mp c with h|h;·show⟨q,CZ _ h,m,A⟩
     ·rw[As.mp h]at m A;show⟨_,Bx _ AR,m,BE A k⟩
  ·show J (AF o) ?_;have:=Gx k (inl o);clear k C z c y o;subst this;show⟨i,a,rfl,l,λw d=>?_⟩;show mc d ⟨_,Bx _ AR,j.2.1,BB _⟩ λd=>p w d
 ·show J (AF y) ?_;have E:CF (i++[(a,B)]++[(v,v)])=CF (i++[(a,B)]):=by clear l p c j;cases i<;>rfl
  show⟨_,v,rfl,λq c=>?_,λw d=>?_⟩
  ·show J E ?_;rcases Cp.mp c with h|h;·show HG (l q h) λr s t u x=>⟨r,s,BE t k,u,x⟩
   ·show J (As.mp h) ?_;show⟨BE j.1 (BE j.2.1 k),BB _,BB _,C,z⟩
  ·show mc d ?_ λd=>?_;·show⟨_,Bx _ AR,BB _,BB _⟩
   ·show AJ (p w d) λq c m=>⟨q,CZ _ c,m⟩
def bA:∀(p:List _)(I:BR)(B)(done),Ml D I B done->(∀v∈p,B<=v)->p.Pairwise (·<=·)->(∀v∈p,-D<=v/\v<=D)->∃a,Ml D (p.foldl EW I) a (p.reverse++done):=by intro p;induction p with|nil=>intro I B done h d d d;show⟨B,h⟩|cons v p i=>intro I B done h j k h3;show AV (Jv.mp k) λm o=>Ac (i _ v _ (bB h (j v AR) (h3 v AR).1 (h3 v AR).2) m o λw l=>h3 w (Ah _ l)) λa c=>⟨a,by(show J Mt ?_;rewrite[DN]);show c⟩
def dW(B:p≠[])(i:∀v∈p,-D<=v/\v<=D):GH D (JG p)/\∀v∈p,E8 v (JG p):=by have h:=λv=>(sortI_perm p).mem_iff (a:=v);have k:=Rg p;unfold JG;cases c:sortI p with
 |nil=>exfalso;clear i k;cases p with|nil=>show B rfl|cons a r=>have:=(h a).mpr AR;replace this:=c▸this;cases this
 |cons v r=>
  rw[c]at k;show AV (Jv.mp k) λC E=>?_;have m:=i v ((h v).mp (J c AR));show Il (bA r (EW [] v) v [v] ⟨[],v,rfl,λo j=>J (As.mp j) ⟨BB _,BB _,BB _,m.1,m.2⟩,λw d=>J (As.mp d) ⟨_,AR,BB _,BB _⟩⟩ C E λw d=>i w ((h w).mp (J c (Ah _ d)))) λu G a l z A=>⟨⟨by show J l ?_;simp,λo j=>?_⟩,λw d=>A w ?_⟩;·show HG (z o j) λq s t x y=>⟨q,s,by(show J l ?_;rewrite[bH]);show t,x,y⟩
  ·have:=(h w).mpr d;rw[c]at this;rw[Cp,List.mem_reverse,As];show(BU.mp this).symm
end
end
mutual
open A
noncomputable def KV:Val->Bool|.int _=>true|.bool _=>true|_=>false
noncomputable def UT(i:Nat)(a:List Int):CV:=.tup [.str "element_of",.int i,.tup (a.map CV.int)]
noncomputable def UU(i:Nat)(a:List Int)(E:Nat):V:=.tup [.str "element_of",.int i,.tup (a.map V.int),.int E]
noncomputable def UP(i:Nat)(u:List Nat):CV:=.tup [.str "element",.int i,.tup (u.map λ(x:Nat)=>CV.int x)]
def UQ(i:Nat)(u:List Nat)(E:Nat):V:=.tup [.str "element",.int i,Gi u,.int E]
inductive CQ(g:GS)(i:Nat)(ws:List Val)(z:Nat)(g':GS):Prop
 |kn (hk:ws.all KV=true) (ho:Once g (UT i (ws.map Val.c)) (JG (ws.map Val.c)) (UU i (ws.map Val.c)) z g')
 |un (xs:List Nat) (g1:GS) (lo hi:Int) (hv:FP ws xs g g1) (hl:∀w∈ws,lo<=(BQ g w).1/\(BQ g w).2<=hi) (h1:∃w∈ws,lo=(BQ g w).1) (h2:∃w∈ws,hi=(BQ g w).2) (ho:Once g1 (UP i xs) [(lo,hi)] (UQ i xs) z g')
def CO(g:GS)(i:Nat)(a:List Val)(v:Val)(L:GS):Prop:=∃z,v=(if a.all Aj then .bit z true else .sum [(z,1)] 0)/\CQ g i a z L
end
section
mutual
open A
variable{n O:Nat}{g L a:GS}{f T:St}{P:Pg}{e:Env}
def Z':∀w:_,Ae T3 (n+2) 7 [w.toV] f=some (.bool (KV w),f)|.int _=>by kernel_rfl|.sum _ _=>by kernel_rfl|.bit _ _=>by kernel_rfl|.bool _=>by kernel_rfl
def TK:∀w:_,Ae T3 (n+2) 9 [w.toV] f=some (.bool (Aj w),f)|.int _=>by kernel_rfl|.sum _ _=>by kernel_rfl|.bit _ _=>by kernel_rfl|.bool _=>by kernel_rfl
def NW:BZ f .eq (.lst u) (.lst [])=some u.isEmpty:=eq_nil u
def QG{d:Type}(w)(F:d->V)(b:List d):((b.filter λc=>!w c).map F).isEmpty=b.all w:=by induction b with|nil=>rfl|cons c b h=>show J GO (J H7 (Mine.AU h ?_));cases w c<;>rfl
def fZ{w:Val->_×_}(h:c≠[])(p:∀b∈c,(w b).1<=(w b).2){l:Prop}(r:∀lo d,Cb f .min [.lst (c.map λb=>V.int (w b).1)]=some (.int lo,f)->Cb f .max [.lst (c.map λb=>V.int (w b).2)]=some (.int d,f)->lo<=d->(∀b∈c,lo<=(w b).1/\(w b).2<=d)->(∃b∈c,lo=(w b).1)->(∃b∈c,d=(w b).2)->l):l:=by
 have d:∀F:_,ED (c.map λb=>V.int (F b))=some (c.map F):=λF=>by clear h p r;induction c with|nil=>rfl|cons b c z=>show m1 z rfl
 cases j:(c.map λb=>(w b).1).min? with|none=>show absurd (GQ.mp (List.min?_eq_none_iff.mp j)) h|some lo=>cases i:(c.map λb=>(w b).2).max? with|none=>show absurd (GQ.mp (List.max?_eq_none_iff.mp i)) h|some x=>
   show AV (List.min?_eq_some_iff.mp j) λA B=>?_;show AV (List.max?_eq_some_iff.mp i) λs m=>?_;show AJ (Ar.mp A) λb k o=>AJ (Ar.mp s) λu y t=>r lo x ?_ ?_ (BE (o▸p b k) (m _ (Ar.mpr ⟨b,k,rfl⟩))) (λv q=>⟨B _ (Ar.mpr ⟨v,q,rfl⟩),m _ (Ar.mpr ⟨v,q,rfl⟩)⟩) ⟨b,k,o.symm⟩ ⟨u,y,t.symm⟩;·show(?_:((ED _).bind _).map _=_);rw[d];show(?_:((c.map _).min?.map V.int).map _=_);show J j ?_;rfl
   ·show(?_:((ED _).bind _).map _=_);rw[d];show(?_:((c.map _).max?.map V.int).map _=_);show J i ?_;rfl
def eG(h:KV w=true):Cb f .int [w.toV]=some (.int w.c,f):=by cases w with|int=>rfl|bool=>rfl|sum=>show AX h|bit=>show AX h
def Once.at(h:Once (g.at k) q H t E L):∃d,Once g q H t E d/\L=d.at k:=by
 rcases h with⟨c,rfl⟩|⟨c,b,rfl⟩;·show⟨g,.inl ⟨c,rfl⟩,rfl⟩
 ·show⟨_,.inr ⟨c,b,rfl⟩,rfl⟩
def Wk.at(w:Wk O g)(h:g.next<=k):Wk O (g.at k):=⟨Ax.up w.low h,w.l1,w.l2,w.l3,w.DW⟩
def J1(h:Ax g g.next)(w:BN g L):(U g).pop (U (L.at k))=U (L.at k):=by show J (EV (L:=L.at k) h (w.low h) λm b=>Ga w.1 m) ?_;show Mine.AU w.1 ?_;rfl
def jZ(i:Nat)(b):Cf (.tup [.str "element_of",.int i,.tup (b.map V.int)])=some (UT i b):=m1 (DF ?r (DF ?r (DF (ID (Px 4 b)) ?r))) rfl
def jY(i:Nat)(u):Cf (.tup [.str "element",.int i,Gi u])=some (UP i u):=m1 (DF ?r (DF ?r (DF (ID (Py 4 u)) ?r))) rfl
def Tq(h:e 20=some (.lst (A3 b)))(c:b.length<lim):AD (AN T3 (n+5)) (.comp (.var 12) [.mk (.nm 12) (.val (.var 20)) [.not (.call 9 [.var 12])]] [12,115]) e (U g)=some (.lst ((b.filter λw=>!Aj w).map Val.toV),U g):=Ge (EC (AH h) ?r) (λw _=>⟨_,_,by rfl,HA [] ?r (.call (TK w) .nil),by rfl,λ_=>rfl⟩) c
def Tj(h:e 20=some (.lst (A3 b)))(c:b.length<lim):AD (AN T3 (n+5)) (.comp (.var 12) [.mk (.nm 12) (.val (.var 20)) [.not (.call 7 [.var 12])]] [12,115]) e (U g)=some (.lst ((b.filter λw=>!KV w).map Val.toV),U g):=Ge (EC (AH h) ?r) (λw _=>⟨_,_,by rfl,HA [] ?r (.call (Z' w) .nil),by rfl,λ_=>rfl⟩) c
def N6{i:Type}{w}{F}{c:List i}(h:c.all w=b):BZ f .eq (.lst ((c.filter λd=>!w d).map F)) (.lst [])=some b:=NW.trans (AE _ ((QG w F c).trans h))
def Zy{i:Nat}(k:Wk (O+2*b.length+2) g)(AC:b≠[])(B:b.length<60)(o:∀w∈b,Cm g w.ps/\w.ps.length+1<lim){y:Prop}(E:∀v L q,Ae T3 (n+6) 30 [.ref 1,.int i,.lst (A3 b)] (U g)=some (Val.toV v,U (L.at q))->CO g i b v L->BN g L->Up g L->Wk O L->g.next<=q->y):y:=by have c:_<lim:=Br B (by decide);cases m:b.all KV with|true=>have p:=Gb (P:=AN T3 (n+5)) (e:=upd (upd (upd (λG=>none) 20 (.lst (A3 b))) 55 (.int i)) 42 (.ref 1)) (f:=U g) (b:=.bi .int [.var 12]) (p:=.nm 12) (r:=[12,115]) (N:=.val (.var 20)) ?r (λw o=>⟨_,by rfl,HA [] ?r (.bi (eG (DD.mp m w o)) .nil)⟩) c;rw[(J Bj rfl:(b.map λw=>V.int _)=(b.map _).map _)]at p;show TM (n:=n+2) (H:=JG (b.map Val.c)) (k.at (A1 _)) (jZ i (b.map Val.c)) (by show(?_:3<60);decide) λz u s d=>AJ d.at λT l S=>?_;have s:=s.trans (AE (λg=>some (_,U g)) S);have I:=Z7 (n:=n+3) (f:=U g) (p:=b.map Val.c) (by rw[Al];show AZ B (Ay _ _));show E _ T _ ?_ ⟨z,rfl,.kn m l⟩ l.fr l.up ((l.wk k).le (A2 _ _)) (A1 _);cases x:b.all Aj<;>show C3 [] ?r (.ex (Tj ?r c)<|.cmp (N6 m)<|.ex p<|.call I<|.call s<|.ex (Tq ?r c)<|.cmp (N6 x) .nil) (J1 k.low l.fr)|false=>have p:=Gb (P:=AN T3 (n+5)) (e:=upd (upd (upd (λG=>none) 20 (.lst (A3 b))) 55 (.int i)) 42 (.ref 1)) (f:=U g) (E:=λw=>Aw (BQ g w)) (b:=.Af (.var 42) 5 [.var 12]) (p:=.nm 12) (r:=[12,115]) (N:=.val (.var 20)) ?r (λw h=>⟨_,by rfl,HA [] ?r (.call (LS k.low (J6 w) (o w h).1) .nil)⟩) c;show fZ (f:=U g) (w:=BQ g) AC (λw h=>LQ g _ _ _ (BB _)) λlo A M N F K P R=>?_;have D:=λ(i j)(e:_->_)h=>Gb (P:=AN T3 (n+5)) (e:=upd (upd (upd (upd (λG=>none) 20 (.lst (A3 b))) 55 (.int j)) 42 (.ref 1)) 53 (.lst _)) (f:=U g) (F:=λw=>Aw (BQ g w)) (E:=λw=>V.int (e w)) (b:=.var i) (p:=.tup [.nm 4,.nm 5]) (r:=[4,5,115]) (N:=.val (.var 53)) ?r h c;show aO (n:=n) (O:=O+2) (k.le (by simp+arith)) o c λH a Q C=>BG (FP.facts (O:=O+2) C) λt u1 r=>?_;have r:=r (k.le (by simp+arith));show TM (n:=n+2) (H:=[(lo,A)]) r (jY i H) (by show(?_:3<60);decide) λz u Y d=>?_;show E _ u u.next ?_ ⟨z,rfl,.un H a lo A C K P R d⟩ (t.trans d.fr) (u1.trans d.up) (d.wk r) (J (t.trans d.fr).2.1 (Ag _));have f:=t.trans d.fr;cases x:b.all Aj<;>show C3 [] ?r (.ex (Tj ?r c)<|.cmp (N6 m)<|.ex p<|.ex (D 4 i _ λ_ _=>⟨_,by rfl,by rfl⟩)<|.bi M<|.ex (D 5 i _ λ_ _=>⟨_,by rfl,by rfl⟩)<|.bi N<|.call (LV F)<|.call Q<|.call Y<|.ex (Tq ?r c)<|.cmp (N6 x) .nil) (J1 k.low f)
end
end
mutual
open A
def Val.at(w:Val)(v:Nat->Int):Int:=ev v w.ps+w.c
structure Am(g:GS)(B:Int)(L:Nat)(w:Val):Prop where
 nd:(keys w.ps).Nodup
 nz:∀p∈w.ps,p.2≠0
 dm:∀p∈w.ps,Ad g p.1≠[]
 nr:DX w.ps<=B
 ln:w.ps.length<=L
inductive Sg|le|eq|ne
noncomputable def Sg.toV(s:Sg):V:=.str (Str.ofString (match s with|.le=>"<="|.eq=>"="|.ne=>"!="))
def CM(g:GS)(s:Sg)(a b v:Val)(L:GS):Prop:=match s with|.le=>RT g false (Bl (Bl a b (-1)) (.int 0) 1) v L|.eq=>RT g true (Bl a b (-1)) v L|.ne=>∃u,RT g true (Bl a b (-1)) u L/\v=CS u
end
section
mutual
open A
variable{n O M c:Nat}{g L d:GS}{f T:St}{P:Pg}{e:Env}{D y:Int}
def WB(b:List (Nat×Int)):0<=DX b:=by induction b with|nil=>show BB _|cons a r h=>show Int.add_nonneg (Co _) h
def Q7{p:Nat×Int}{a:List (Nat×Int)}(h:p∈a):(p.2.natAbs:Int)<=DX a/\0<=DX a:=by show⟨?_,WB _⟩;induction a with|nil=>show absurd h Cu|cons q r i=>show(BU.mp h).elim (λb=>b▸Int.le_add_of_nonneg_right (WB r)) λh=>BE (i h) (Int.le_add_of_nonneg_left (Co _))
def Am.Bc(h:Am g D M w)(b:D<1000000):Cm g w.ps:=λp a=>by have q:=BH (Iy.mp (HQ (BE (Q7 a).1 h.nr) b));show⟨h.dm p a,C4 q,C4 q⟩
def Am.cf(h:Am g D M w)(j:D<1000000):∀a∈BY w.ps,a.natAbs<1000000/\a≠0:=λa b=>by show AJ (Ar.mp b) λp i k=>?_;clear b;obtain rfl:=k;show⟨Iy.mp (HQ (BE (Q7 i).1 h.nr) j),h.nz p i⟩
def Am.up(h:Am g D M w)(B:Up g L):Am L D M w:=⟨h.nd,h.nz,λp a=>J (B.FU (h.dm p a)) (h.dm p a),h.nr,h.ln⟩
def Am.le(h:Am g D M w)(a:D<=y)(b:M<=c):Am g y c w:=⟨h.nd,h.nz,h.dm,BE h.nr a,AQ h.ln b⟩
def Am.int(i)(h:0<=D):Am g D M (.int i):=⟨G1,CP _,CP _,h,De _⟩
def Dy(j:Am g D M a)(l:Am g y c b):Am g (D+w.natAbs*y) (M+c) (Bl a b w)/\∀v,(Bl a b w).at v=a.at v+w*b.at v:=by
 show HG (Nb w b.ps _ j.nd) λr s t u x=>Kx (RD r) λz o2 A B C E=>?_;have i:(Bl a b w).ps=_:=Q8 _ _;show⟨⟨J i A,J i C,λp o=>?_,?_,J i (AQ E (AQ t (Ft j.ln l.ln)))⟩,λv=>?_⟩
 ·rw[i]at o;rcases s _ (B _ (Ar.mpr ⟨p,o,rfl⟩))with h|h;·show AJ (Ar.mp h) λq m k=>Mine.AU k (j.dm q m)
  ·show AJ (Ar.mp h) λq m k=>Mine.AU k (l.dm q m)
 ·show J i (J o2 (BE x (Jp j.nr (O8 l.nr (Co _)))))
 ·unfold Val.at;show J i (J (WD _ _) ?_);rewrite[z,u,Int.mul_add];show by simp+arith 
def IC(h:Am g D M a)(j:Am g y c b)(i:w.natAbs<=1000000)(k:M+c<64):Ae T3 (n+3) 12 [a.toV,b.toV,.int w] f=some ((Bl a b w).toV,f.bump):=Pn a b w h.nd (Ai (Ft h.ln j.ln) k) (λp l=>C4 i) (C4 i)
def aD(j)(i:Ax g g.next)(h:Am g D M w)(a:D<1000000)(b:M<64):Ae T3 (n+4) 52 [.ref 1,DV j,w.toV] (U g)=some ((rowF j (BQ g w).1 (BQ g w).2 w.ps w.c).toV,U g):=Po j w i (h.Bc a) (Ai h.ln (Br b (by decide))) (h.cf a)
def Pp(j)(k:Wk (O+2) g)(h:Am g D M w)(a:D<1000000)(b:M<64):∃v L,Ae T3 (n+5) 53 [.ref 1,DV j,w.toV] (U g)=some (Val.toV v,U L)/\RT g j w v L:=aE j w k (h.Bc a) (Ai h.ln (Br b (by decide))) (h.cf a)
def aF(j)(k:Wk (O+1) g)(h:Am g D M w)(a:D<1000000)(b:M<64):∃L,Ae T3 (n+5) 50 [.ref 1,DV j,w.toV] (U g)=some (.none,U L)/\RQ g j w L:=aC j w k (h.Bc a) (Ai h.ln (Br b (by decide))) (h.cf a)
def Am.at(h:Am g D M w):Am (g.at k) D M w:=⟨h.nd,h.nz,h.dm,h.nr,h.ln⟩
def TT.at(h:TT (g.at k) r v L):∃i,TT g r v i/\L=i.at k:=by
 rcases h with⟨x,a,b,j,l,rfl⟩|⟨z,h,m⟩;·show⟨g,.inl ⟨x,a,b,j,l,rfl⟩,rfl⟩
 ·show AJ h.at λi o p=>?_;clear h;obtain rfl:=p;show⟨i,.inr ⟨z,o,m⟩,rfl⟩
def Zj:∀(a)(lo h),Bc (g.at k) a lo h=Bc g a lo h:=by intro a;induction a with|nil=>intro b b;show rfl|cons b a i=>intro b b;show i _ _
def RT.at(h:RT (g.at k) j w v L):∃a,RT g j w v a/\L=a.at k:=by unfold RT at h⊢;have:BQ (g.at k) w=BQ g w:=Zj _ _ _;rw[this]at h;cases i:rowF j _ _ _ _ with|so b=>rw[i]at h;show⟨g,⟨h.1,rfl⟩,h.2⟩|row r=>rw[i]at h;show AJ h λu h j=>AJ h.at λa h l=>⟨a,⟨u,h,j⟩,l⟩
def TJ(k:Wk (O+2) g)(s:Aj a=false)(j:Am g D M a)(l:Am g y c b)(r:D+y<1000000)(i:M+c<64){h:Prop}(w:∀v L q,Ae T3 (n+6) 35 [.ref 1,a.toV,b.toV] (U g)=some (Val.toV v,U (L.at q))->RT g true (Bl a b (-1)) v L->g.next<=q->h):h:=by have t:=(Dy (w:=-1) j l).1;show Cg (Pp _ (k.at (A1 _)) t.at (show D+_<_ by show Aa r (by simp+arith)) i) λv d o u=>AJ u.at λp m x=>w v p _ (C3 [] ?r (.call ((TK a).trans (AE (λb=>some (_,_)) s))<|.call (IC j l (by decide) i)<|.call (o.trans (AE (λg=>some (_,U g)) x)) .nil) (J1 k.low m.fr)) m (A1 _)
def Z0(s:Sg)(k:Wk (O+2) g)(w:Aj a=false)(m:Am g D M a)(o:Am g y c b)(p:D+y<1000000)(l:M+c<64){u:Prop}(t:∀v L q,Ae T3 (n+7) 31 [.ref 1,s.toV,a.toV,b.toV] (U g)=some (Val.toV v,U (L.at q))->CM g s a b v L->BN g L->Up g L->Wk O L->g.next<=q->Aj v=true->u):u:=by cases s with|le=>have x:=(Dy (w:=-1) m o).1;have z:=(Dy (w:=1) x (Am.int (M:=0) 0 (BB _))).1;show Cg (Pp _ (g:=g.at (_+2)) (k.at (A2 _ _)) z.at (show D+_+_<_ by show Aa p (by simp+arith)) l) λv d i A=>AJ A.at λj h B=>t v j _ (C3 [] ?r (.call (IC m o (by decide) l)<|.call (IC (f:=U (g.at _)) x (Am.int (M:=0) 0 (BB _)) (by decide) l)<|.call (i.trans (AE (λg=>some (_,U g)) B)) .nil) (J1 k.low h.fr)) h h.fr h.up (h.wk k) (A2 _ _) h.DU|eq=>show TJ k w m o p l λv j q i h r=>t v j q (C3 [] ?r (.call i .nil) (J1 k.low h.fr)) h h.fr h.up (h.wk k) r h.DU|ne=>show TJ k w m o p l λv j q i h r=>t _ j q (C3 [] ?r (.call i<|.call (M6 h.DU) .nil) (J1 k.low h.fr)) ⟨v,h,rfl⟩ h.fr h.up (h.wk k) r (NY h.DU)
end
end
mutual
open A
def G4:List Val->GS->GS->Prop|[],g,a=>a=g|w::c,g,a=>∃b,RQ g false w b/\G4 c b a
def Fx:List Val->List Val->GS->GS->Prop|[],b,g,a=>b=[]/\a=g|w::d,b,g,a=>∃t r c,b=t::r/\RT g false w t c/\Fx d r c a
end
section
mutual
open A
variable{n O M c:Nat}{g L b:GS}{f T:St}{P:Pg}{e:Env}{D y:Int}
def BN.obj(h:BN g L)(a:6<=k):Dn L k=Dn g k:=by obtain⟨j,rfl⟩:∃j,k=j+6:=⟨_,OM a⟩;show(?_:Cr L _=Cr g _);unfold Cr;show J h.2.2 (J h.1 ?_);rfl
def Fw.facts:∀{d}{g:GS},Fw E d g L->Up g L/\(Wk (O+d.length) g->Wk O L):=by intro d;induction d with|nil=>intro g h;show J h ⟨Up.rfl,id⟩|cons p r j=>intro g h;show AJ h λb i m=>AV (j m) λa l=>⟨i.up.trans a,λk=>l (i.wk (k.le (J B9 (Ag _))))⟩
def AB.facts(h:AB z g v L):Up g L/\(Wk (O+z.length+3) g->Wk O L)/\Aj v=true:=by have o:Wk (O+z.length+3) g->Wk (O+2) g:=λk=>k.le (Ft (A2 _ _) (A1 _));cases h with|Kd h j i d=>show⟨i.up,λk=>i.wk (o k),BX d▸rfl⟩|LL h j i d=>show⟨i.up,λk=>i.wk (o k),BX d▸rfl⟩|hit j d h m=>show⟨BX m▸Up.rfl,λk=>BX m▸k.le (Mw (A2 _ _)),BX d▸rfl⟩|mix j d h r b q l=>show AV q.facts λa p=>⟨((Up.var _ _).trans a).trans l.up,λk=>l.wk (p ((k.le (by simp+arith)).var _ _)),BX d▸rfl⟩
def HI.el{K:_->Prop}(h:HI o g v L)(n:v=.bool false/\L=g->K none)(E:v=.bool true/\L=g->K (some []))(s:∀p,v=Cd p/\L=g->K (some [p]))(m:∀p q r,(∃z,z.Perm (p::q::r)/\AB z g v L)->K (some (p::q::r))):K o:=by cases o with|none=>show n h|some l=>cases l with|nil=>show E h|cons p q=>cases q with|nil=>show s p h|cons q r=>show m p q r h
def AO.facts(h:AO d g v L):Up g L/\(Wk (O+d.length+3) g->Wk O L)/\Aj v=true:=by have i{x}(w)(h:v=x/\L=g):Up g L/\(Wk (O+d.length+3) g->Wk O L)/\Aj v=true:=h.1.symm▸h.2.symm▸⟨Up.rfl,λk=>k.le (Mw (A2 _ _)),w⟩;show HI.el (K:=λo=>_->_) h (λh j=>i rfl h) (λh j=>i rfl h) (λp h j=>i rfl h) (λp q r h t=>AJ h λz u s=>BG s.facts λa l m=>⟨a,λk=>l (k.le (Jx (EJ (AQ (AY u.length_eq) (AQ (Qo d [] _ t) (AY (Nat.zero_add _)))) O) 3)),m⟩) rfl
def G4.facts:∀{i}{g:GS},G4 i g L->BN g L/\Up g L/\(Wk (O+i.length) g->Wk O L):=by intro i;induction i with|nil=>intro g h;show J h ⟨BN.rfl,Up.rfl,id⟩|cons w i j=>intro g⟨b,q,r⟩;show BG (j r) λa l m=>BG q.facts λd o p=>⟨d.trans a,o.trans l,λk=>m (p (k.le (J B9 (Ag _))))⟩
def Fx.facts:∀{i d}{g:GS},Fx i d g L->BN g L/\Up g L/\(Wk (O+2*i.length) g->Wk O L)/\(∀t∈d,Aj t=true)/\d.length=i.length:=by intro i;induction i with|nil=>intro d g h;((show J h.1 ?_;show J h.2 ?_);show⟨BN.rfl,Up.rfl,id,CP _,rfl⟩)|cons w i o=>intro d g h;show Il h λt r b m l x=>HG (o x) λa p q s v=>⟨l.fr.trans a,l.up.trans p,λk=>q (l.wk (k.le (J B9 (Ag _)))),λu j=>?_,J m (J B9 (J B9 (J v rfl)))⟩;replace j:=m▸j;show mc j l.DU λj=>s u j
def gu(h:Ax g g.next)(d:Ax L g.next)(a:L.other=g.other):(U g).pop (U L)=U L:=by show J (EV h d λm i=>Ga a m) (Mine.AU a rfl)
def kH(C:6<=k)(E:D<1000000)(G:M<64):∀(l)(g:GS)(e),Dn g k=some o->e 42=some (.ref 1)->(∀w∈l,Am g D M w)->Wk (O+l.length) g->∀{a:Prop},(∀j L,Cw (λx e f=>(BP (.nm 12) x e).bind λe=>Ao (AN T3 (n+5)) [.expr (.Af (.var 42) 16 [.str "linear_le",.var 12])] e f) (some (k,o)) (A3 l) e (U g)=some (.next,j,U L)->G4 l g L->a)->a:=by intro l;induction l with|nil=>intro g e i i i i a d;show d e g rfl rfl|cons w l s=>intro g e H m q r a d;show AJ (aF (n:=n) false (r.le (J B9 (Ag _))) (q w AR) E G) λb t h=>BG (h.facts (O:=O+l.length)) λz u1 N=>?_;have p:=(z.obj C).trans H;show s b (upd e 12 w.toV) p m (λu I=>(q u (Ah _ I)).up u1) (N (r.le (J B9 (Ag _)))) λj A v B=>d j A (b1 (b1 (a:=upd e 12 _) ?r (AI (D3 (B5 (AH m) ?r ?r rfl t)) ?r)) ?_) ⟨b,h,B⟩;dsimp only;show J (AG p) v
def kF{a}(E:6<=k)(G:D<1000000)(H:M<64)(C:a 42=some (.ref 1)):∀(l)(g:GS),Dn g k=some o->(∀w∈l,Am g D M w)->Wk (O+2*l.length) g->∀{i:Prop},(∀d L,Dr (λx f=>(BP (.nm 12) x (clear a [12,115])).bind λe=>(I6 (AN T3 (n+5)) [] e f).bind λ(t,f)=>match t with|true=>FY (AN T3 (n+5)) (λe f=>AD (AN T3 (n+5)) (.Af (.var 42) 10 [.str "linear_le",.var 12]) e f) [] e e f|false=>some ([],f)) (some (k,o)) (A3 l) (U g)=some (A3 d,U L)->Fx l d g L->i)->i:=by intro l;induction l with|nil=>intro g r r r i j;show j [] g rfl ⟨rfl,rfl⟩|cons w l s=>intro g I p q i j;show Cg (Pp (n:=n) false (q.le (J B9 (Ag _))) (p w AR) G H) λt b v h=>?_;have m:=(h.fr.obj E).trans I;show s b m (λu N=>(p u (Ah _ N)).up h.up) (h.wk (q.le (J B9 (Ag _)))) λd A z B=>j _ A (b1 (b1 (a:=upd (clear a [12,115]) 12 _) ?r (b1 (a:=(true,_)) ?r (m1 (B5 (AH C) ?r ?r rfl v) ?r))) ?_) ⟨t,d,b,rfl,h,B⟩;dsimp only;show J (AG m) (m1 z rfl)
def aQ(w:Wk (O+a.length) g)(p:g.part=none)(l:6<=k)(i:Dn g k=some (.list (A3 a)))(q:∀w∈a,Am g D M w)(m:D<1000000)(o:M<64){d:Prop}(r:∀L,Ae T3 (n+6) 44 [.ref 1,.ref k] (U g)=some (.bool true,U L)->G4 a g L->d):d:=by let s:=upd (upd (λt=>none) 56 (.ref k)) 42 (.ref 1);show kH (n:=n) l m o a g s i ?r q w λu L j h=>r L ?_ h;have:=DR (w:=44) (D:=[_,_]) ?r ?r<|Ap (BS (QB (IG rfl ?r (by show(?_:some (Fd _)=_);show J p ?_;rfl))) ?r<|AI (Ea (F2 rfl i) j) ?r);show J this (J (WV w.low (h.facts (O:=O)).1) rfl)
def f9(t)(k):noteG (g.at k) t=(noteG g t).at k:=by obtain⟨i,h,a,p,o,d⟩:=g;cases p with|none=>rfl|some q=>delta noteG GS.at;dsimp only;split<;>rfl
def aP(w:Wk (O+3*j.length+3) g)(s:g.part=some (m,l))(At:6<=m)(AC:l.length<lim)(I:6<=k)(C:Dn g k=some (.list (A3 j)))(Ch:∀w∈j,Am g D M w)(N:D<1000000)(Y:M<64)(G:j.length<63){z:Prop}(Db:∀t d b L q,Ae T3 (n+6) 44 [.ref 1,.ref k] (U g)=some (Val.toV t,U ((noteG L t).at q))->Fx j d g b->AO d b t L->BN g L->g.next<=q->z):z:=by
 let H:=upd (upd (λP=>none) 56 (.ref k)) 42 (.ref 1);show kF (n:=n) (O:=O+j.length+3) (a:=H) I N Y ?r j g C Ch (w.le (by simp+arith)) λd b i h=>HG (h.facts (O:=O+j.length+3)) λv u1 T c x=>?_;have y:AD (AN T3 (n+5)) (.comp (.Af (.var 42) 10 [.str "linear_le",.var 12]) [.mk (.nm 12) (.val (.var 56)) []] [12,115]) H (U g)=some (.lst (A3 d),U b):=by show b1 (b1 (F2 (AH ?r) C) i) ?_;dsimp only;(show J (AG (by show(?_:(d.map Val.toV).length<lim);(rewrite[Al];show J x ?_);show Br G (by decide))) ?_;rfl)
 show TH (n:=n+2) (J x (T (w.le (by simp+arith)))) c (J x G) λt r o A Q=>BG (A.facts (O:=O)) λu2 K e=>?_;have p:=v.trans Q;have B:=Pl (n:=n+2) (g:=r.at (b.next+1)) (Ax.up (p.low w.low) (J v.2.1 (A1 _))) (p.2.2.trans s) At AC e;rw[f9]at B;have f:Ax ((noteG r t).at (b.next+1)) g.next:=by
  show⟨w.low.1,λa F i=>?_⟩;change(noteG r t).part=_ at i;have E:=p.2.2.trans s;unfold noteG at i;replace i:=E▸i;dsimp only at i;split at i;·rw[E]at i;(show AV (s2 i) λu o=>?_;clear i;subst u o);show w.low.2 _ _ s
  ·show AV (s2 i) λu o=>?_;clear i;subst u o;show w.low.2 _ _ s
 show Db t d b r (b.next+1) ?_ h A p (J v.2.1 (A1 _));have:=DR (w:=44) (D:=[.ref 1,.ref k]) (f:=U g) ?r ?r<|AI (Bq (QB (IG rfl ?r (by show(?_:some (Fd g.part)=_);show J s ?_;rfl))) ?r ?r)<|AI (Az (B5 rfl ?r ?r (AL y ?r) o) ?r)<|AI (D3 (B5 rfl ?r ?r rfl B))<|
  rfl;(show J this ?_;show J (gu w.low f (by
   show(?_:(noteG r t).other=_);show Mine.AU p.1 ?_;unfold noteG;split;·split<;>rfl
   ·rfl)) ?_;rfl)
end
end
section
mutual
open A
variable{n O M b:Nat}{g L a:GS}{f T:St}{P:Pg}{e:Env}{D y:Int}
def Zl:∀(c)(lo h),Bc (cr g) c lo h=Bc g c lo h:=by intro c;induction c with|nil=>intro d d;show rfl|cons d c i=>intro d d;show i _ _
def Hp(w):BQ (cr g) w=BQ g w:=Zl _ _ _
def Once.cr(h:Once g k H t E L):Once (Mine.cr g) k H t E (Mine.cr L):=h.imp (λc=>⟨c.1,AE _ c.2⟩) λc=>⟨c.1,c.2.1,AE _ c.2.2⟩
def TT.cr(h:TT g r v L):TT (Mine.cr g) r v (Mine.cr L):=h.imp (λh=>h.imp λx c=>⟨c.1,c.2.1,c.2.2.1,c.2.2.2.1,AE _ c.2.2.2.2⟩) λh=>h.imp λz c=>⟨c.1.cr,c.2⟩
def RT.cr(h:RT g j w v L):RT (cr g) j w v (cr L):=by unfold RT at h⊢;rw[Hp];cases c:rowF j _ _ _ _ with|so i=>rw[c]at h;show⟨h.1,J h.2 rfl⟩|row r=>rw[c]at h;(have d:=h;show AJ d λu h j=>?_;(skip));show⟨u,h.cr,j⟩
def RS.cr(h:RS d g L):RS d (cr g) (cr L):=by
 rcases h with⟨i,rfl⟩|⟨u,k,i,j,c,l,rfl⟩;·show .inl ⟨i,rfl⟩
 ·show .inr ⟨u,k,i,j,c,l,rfl⟩
def RQ.cr(h:RQ g j w L):RQ (cr g) j w (cr L):=by
 unfold RQ at h⊢;rw[Hp];split at h;·show J h rfl
 ·show J h ?_;rfl
 ·show J h ?_;rfl
def G4.cr:∀{c}{g:GS},G4 c g L->G4 c (cr g) (cr L):=by intro c;induction c with|nil=>intro g h;show J h rfl|cons w c d=>showλ{g}h=>AJ h λa i j=>⟨_,i.cr,d j⟩
def Fx.cr:∀{c d}{g:GS},Fx c d g L->Fx c d (cr g) (cr L):=by intro c;induction c with|nil=>intro d g h;show J h.2 ⟨h.1,rfl⟩|cons w c i=>showλ{d g}h=>h.imp λt h=>h.imp λr h=>h.elim λa h=>⟨_,h.1,h.2.1.cr,i h.2.2⟩
def Fw.cr:∀{c}{g:GS},Fw E c g L->Fw E c (cr g) (cr L):=by intro c;induction c with|nil=>intro g h;show J h rfl|cons p r d=>showλ{g}h=>AJ h λa i j=>⟨_,i.cr,d j⟩
def AB.cr(h:AB z g v L):AB z (Mine.cr g) v (Mine.cr L):=by cases h with|Kd h d i c=>show .Kd h d i.cr c|LL h d i c=>show .LL h d i.cr c|hit d c h l=>show .hit d c h (AE _ l)|mix d c h m a j k=>show .mix d c h m _ j.cr k.cr
def AO.cr(h:AO d g v L):AO d (cr g) v (cr L):=have c{x}(h:_/\_):_/\_:=⟨h.1,AE _ h.2⟩;HI.el (K:=λo=>HI o _ v _) h c c (λp=>c) λp q r h=>h.imp λj i=>⟨i.1,i.2.cr⟩
def VO.cr(h:VO g w x L):VO (Mine.cr g) w x (Mine.cr L):=by cases h with|one h i=>show .one h (AE _ i)|new h d j=>show .new h d (BX (Hp w)▸j.cr)|con d h=>show .con d (h.imp (λc=>⟨c.1,AE _ c.2⟩) λc=>⟨c.1,c.2.1,AE _ c.2.2⟩)
def FP.cr:∀{c}{u}{g:GS},FP c u g L->FP c u (cr g) (cr L):=by intro c;induction c with|nil=>intro u g h;show J h.2 ⟨h.1,rfl⟩|cons w c d=>showλ{u g}h=>h.imp λx h=>h.imp λr h=>h.elim λa h=>⟨_,h.1,h.2.1.cr,d h.2.2⟩
def SD.cr(h:SD g A t H E L):SD (Mine.cr g) A t H E (Mine.cr L):=by cases h with|hit h c=>show .hit h (AE _ c)|new h d k a l m i j c=>show .new h d k _ l _ i.cr j.cr (AE _ c)
def CQ.cr(h:CQ g i s E L):CQ (Mine.cr g) i s E (Mine.cr L):=by have q:∀w,_=BQ g w:=Hp;cases h with|kn m d=>show .kn m d.cr|un t a lo l p o j k d=>show .un t _ lo l p.cr (λw r=>BX (q w)▸o w r) (j.imp λw c=>⟨c.1,BX (q w)▸c.2⟩) (k.imp λw c=>⟨c.1,BX (q w)▸c.2⟩) d.cr
def CO.cr(h:CO g i d v L):CO (Mine.cr g) i d v (Mine.cr L):=h.imp λz c=>⟨c.1,c.2.cr⟩
def Q5(t):cr (noteG g t)=cr g:=by
 unfold noteG;split;·split<;>rfl
 ·rfl
end
end
mutual
open A
abbrev Zs:=List ((Int×Int)×Val)
def Dx:Zs->Val->Val|[],p=>p|z::r,p=>Dx r (Bl (Bl z.2 (.int z.1.1) (-1)) p (z.1.2-z.1.1+1))
def CB:Zs->List Val|[]=>[]|z::r=>Bl (.int z.1.1) z.2 (-1)::Bl z.2 (.int z.1.2) (-1)::CB r
def GS.two(g:GS)(R:List Val)(m:Nat):GS:={g with other:=λi=>if i=g.next then some (.list (A3 R))else if i=g.next+1 then some .BJ else g.other i,next:=m}
def zV(E:(Int×Int)×Val):V:=.tup [Aw E.1,E.2.toV]
end
section
mutual
open A
variable{n O M b m:Nat}{g L c:GS}{f T:St}{P:Pg}{e:Env}{D y:Int}{R a:List Val}
def N8(h:Ax g k):Dn g k=g.other k:=Ax.at h (Ag _)
def Jb(h:Ax g g.next):(U (g.two R m)).objs g.next=some (.list (A3 R)):=(N8 (g:=g.two R m) h).trans (AG rfl)
def jo(h:Ax g g.next):(U (g.two R m)).objs (g.next+1)=some .BJ:=(N8 (g:=g.two R m) (h.up (A1 _))).trans ((AF (Nat.succ_ne_self _)).trans (AG rfl))
def jq(h:Ax g g.next):(U (g.two R m)).set g.next (.list (A3 a))=U (g.two a m):=Ij (g:=g.two R m) (Jb h) (λi d=>MD ((AF d).trans (AF d).symm)) (.inr rfl)
def jn(h:Ax g g.next):((U g).new (.list (A3 []))).new .BJ=U (g.two [] (g.next+2)):=by
 show J (F3 h) ?_;have j:=F3 (g:=g.lay _ (.list (A3 []))) (o:=.BJ) (Ax.up h (A1 _));show J j ?_;delta U GS.lay GS.two;congr 1;funext i;have:(λm=>if m=g.next+1 then some A'.BJ else if m=g.next then some (.list (A3 []))else g.other m)=λi=>if i=g.next then some (.list (A3 []))else if i=g.next+1 then some .BJ else g.other i:=by
  funext i;by_cases d:i=g.next;·show J (AG d) (J (AG d) (J (AF (Av (Ai (AY d) (Ag _)))) rfl))
  ·show J (AF d) (J (AF d) rfl)
 show J this rfl
def c9(h:f.objs k=some (.list u))(d:u.length+ys.length<lim):E3 f (.ref k) .extend [.lst ys]=some (.none,f.set k (.list (u++ys))):=(b1 (JO h) (AG d):_)
def kh:∀d:Zs,Es (d.map λE=>Aw E.1) (d.map λE=>E.2.toV)=d.map zV:=by intro d;induction d with|nil=>show rfl|cons E r h=>show(?_:_::_=_);show J h ?_;rfl
def bp(q:Ax g g.next):∀(h:Zs)(p:Val)(R:List Val)(m:Nat)(e:Env)(j:Nat)(w:Int),e 32=some p.toV->e 56=some (.ref g.next)->Am g w j p->(∀E∈h,Am g D M E.2/\(E.1.2-E.1.1+1).natAbs<=1000000)->j+h.length*M<60->M<60->R.length+2*h.length<lim->∀{z:Prop},(∀l v,Cw (λx e f=>(BP (.tup [.tup [.nm 4,.nm 5],.nm 55]) x e).bind λe=>Ao (AN T3 (n+3)) (ES FL 2) e f) (some (g.next+1,.BJ)) (h.map zV) e (U (g.two R m))=some (.next,l,U (g.two (R++CB h) v))->l 32=some (Dx h p).toV->m<=v->(∀i,i≠4->i≠5->i≠55->i≠32->l i=e i)->z)->z:=by intro h;induction h with|nil=>intro p R m e j w k A d d d d d;showλI=>I e m (J (show R++CB []=R from Bv R) rfl) k (Ag _) λd d d d d=>rfl|cons E r F=>
  intro p R m e j w k A L O G B C z;intro I;show AV (O E AR) λs Z=>?_;rw[B9]at G C;have H:j+M+r.length*M<60:=by rw[Nat.succ_mul]at G;show lf G (by simp+arith)
  have t:∀i:Int,Am g 0 0 (.int i):=λi=>Am.int i (BB _);have Q:=(Dy (w:=-1) s (t E.1.1)).1;have K:=(Dy (w:=E.1.2-E.1.1+1) Q L).1;let T:=Bl (Bl E.2 (.int E.1.1) (-1)) p (E.1.2-E.1.1+1);let a:=R++[Bl (.int E.1.1) E.2 (-1),Bl E.2 (.int E.1.2) (-1)];have S:(A3 R).length=R.length:=Al ..;let N:Env:=upd (upd (upd e 4 (.int E.1.1)) 5 (.int E.1.2)) 55 E.2.toV;let o:Env:=upd N 32 T.toV;show F T a (m+4) o (M+0+j) _ rfl A K (λu X=>O u (Ah _ X)) (lf H (by simp+arith)) B (J Bp (lf C (by simp+arith):R.length+2+_<_)) λl v Y P V W=>?_;rw[(by show(?_:R++[_,_]++CB r=_);rw[DN];rfl:a++CB r=R++CB (E::r))]at Y;show I l v (b1 (a:=(Fl.next,o,U (g.two a (m+4)))) ?_ ?_) P (AQ (A2 _ _) V) λi b c y k=>(W i b c y k).trans ?_;·show b1 (a:=N) ?r (AI (AC:=o) (T:=U (g.two R (m+2))) (Az (BI (AL (BI (AL (AH ?r) (AL (AH (v:=(Val.int E.1.1).toV) ?r) ?r)) (IC (n:=n) (w:=-1) (f:=U (g.two R m)) s (t E.1.1) (by decide) (AZ B (Ay _ _)))) (AL (AH (show N 32=some p.toV from k)) rfl)) (IC (n:=n) (f:=U (g.two R (m+1))) Q L Z (lf H (by simp+arith)))) ?r) (AI (AC:=o) (T:=U (g.two a (m+4))) (D3 (G' (v:=.ref g.next) (AH (show o 56=_ from A)) (JT (Jb q)).2.2 (AL (KD (AL (BI rfl (IC (n:=n) (w:=-1) (f:=U (g.two R (m+2))) (t E.1.1) s (by decide) (lf H (by simp+arith)))) (AL (BI (AL (AH ?r) (AL (AH (v:=(Val.int E.1.2).toV) ?r) ?r)) (IC (n:=n) (w:=-1) (f:=U (g.two R (m+3))) s (t E.1.2) (by decide) (AZ B (Ay _ _)))) ?r))) ?r) ((c9 (Jb (R:=R) (m:=m+4) q) (by show J S ?_;show(?_:R.length+2<lim);show Ai (EJ (Ay _ _) _) C)).trans ?_))) ?r));(show Mine.AU (by show(?_:(R++[_,_]).map Val.toV=_);show J C8 ?_;rfl:A3 a=A3 R++[(Bl (.int E.1.1) E.2 (-1)).toV,(Bl E.2 (.int E.1.2) (-1)).toV]) ?_;show J (jq q) ?_;rfl)
  ·dsimp only;show J (AG (jo q)) Y
  ·skip;show(?_:(if i=32 then _ else if i=55 then _ else if i=5 then _ else if i=4 then _ else e i)=e i);show J (AF k) (J (AF y) (J (AF c) (J (AF b) rfl)))
end
end
mutual
open A
noncomputable def Hn:Gs->Bool|.so b=>!b|.row _=>false
def anyF(g:GS)(R:List Val):Bool:=R.any λw=>Hn (rowF false (BQ g w).1 (BQ g w).2 w.ps w.c)
def He(a:Zs)(b:List Val):List V:=[.ref 1,.tup [.tup (a.map λz=>Aw z.1),.lst (A3 b)],.lst (a.map λz=>z.2.toV),.int 0]
def UM(a:Zs)(b:List Val):Env:=upd (upd (upd (upd (λc=>none) 44 (.int 0)) 27 (.lst (a.map λz=>z.2.toV))) 10 (.tup [.tup (a.map λz=>Aw z.1),.lst (A3 b)])) 42 (.ref 1)
structure SY(g:GS)(zs:Zs)(ws:List Val)(ρ:Env):Prop where
 QP:ρ 32=some (Dx zs (.int 0)).toV
 U7:ρ 56=some (.ref g.next)
 IK:ρ 42=some (.ref 1)
 Lo:ρ 10=some (.tup [.tup (zs.map λz=>Aw z.1),.lst (A3 ws)])
end
section
mutual
open A
variable{n O M j m:Nat}{g L i:GS}{f T:St}{P:Pg}{e:Env}{D y:Int}{R k:List Val}{c:Zs}{d:List Val}
def VB{x A:V}(h:AD P a e f=some (x,f))(l:AD P b e f=some (A,f))(o:rowOf x=some u)(p:rowOf A=some ys):C2 P (.zip a b) e f=some (Es u ys,some (f.next,.BJ),f.new .BJ):=b1 h (b1 l (b1 o (m1 p rfl)))
def fk(h:a=b):BZ f .ne (.int a) (.int b)=some false:=AE (λt=>some _) (A5.mpr h)
def Kf(v:0<=D):∀{c:Zs},(∀E∈c,Am g D M E.2)->(∀w∈CB c,Am g D M w)/\(CB c).length=2*c.length:=by intro c;induction c with|nil=>intro x;show⟨CP _,rfl⟩|cons E r s=>
  intro h;show AV (s λu t=>h u (Ah _ t)) λa b=>?_;have o:=h E AR;have q:∀p:_,Am g 0 0 _:=λp=>Am.int p (BB _);show⟨λw l=>?_,by show(?_:_+1+1=_);(show J b ?_;show J B9 ?_);show rfl⟩;show mc l ?_ λl=>?_;·show((Dy (q _) o).1).le (by simp+arith:0+1*D<=D) (by simp+arith)
  ·show mc l (((Dy o (q _)).1).le (by simp+arith:D+1*0<=D) (Ag _)) λl=>a w l
def fS{F:_->Gs}:∀(d:List Val),Dl (.bool false) (d.map λw=>(F w).toV)=some (d.any λw=>Hn (F w)):=by intro d;induction d with|nil=>show rfl|cons w d a=>
  show(?_:b2 _ _ _=_);show J a ?_;have:DH 6 (F w).toV (.bool false)=some (Hn (F w)):=by cases F w with|so b=>cases b<;>rfl|row r=>rfl
  show J this ?_;rfl
def UN(b:Ax g g.next)(Q:0<=D)(N:D<1000000)(z:∀E∈c,Am g D M E.2/\(E.1.2-E.1.1+1).natAbs<=1000000)(AC:c.length*M<60)(v:M<60)(p:c.length<60)(H:d≠[]):∃e m,SY g c d e/\g.next+2<=m/\(∀r,Ao (AN T3 (n+6)) (FL.body.drop 3) e (U (g.two (CB c) m))=some r->Ao (AN T3 (n+6)) FL.body (UM c d) (U g)=some r)/\AD (AN T3 (n+6)) (.or [.cmp .eq (.idx (.var 10) (.int 1)) (.lst []),.cmp .isin (.bool false) (.comp (.Af (.var 42) 9 [.str "linear_le",.var 12]) [.mk (.nm 12) (.val (.var 56)) []] [12,115])]) e (U (g.two (CB c) m))=some (.bool (anyF g (CB c)),U (g.two (CB c) m)):=by
 let C:=upd (upd (UM c d) 32 (.int 0)) 56 (.ref g.next);show bp (n:=n+3) b c _ [] (g.next+2) C 0 0 ?r ?r (Am.int 0 (BB _)) z (lf AC (by simp+arith)) v (Br (show _<120 by show lf p (lf p (by simp+arith))) (by decide)) λq m G I x l=>?_;have u:_=some _:=(l 56 (by decide) (by decide) (by decide) (by decide)).trans ?r;have t:_=some _:=(l 42 (by decide) (by decide) (by decide) (by decide)).trans ?r;have s:=(l 10 (by decide) (by decide) (by decide) (by decide)).trans ?r;show AV (Kf Q λE h=>(z E h).1) λa Y=>⟨q,m,⟨I,u,t,s⟩,x,λr l=>?_,?_⟩;·show AI (AC:=C) ?r (AI (Bq (Aq rfl rfl (fk (by rw[Al,Al]))) ?r ?r) (AI (Ea rfl ?_) l));rw[kh];have:=jn b;show J this G
 ·have A:AD (AN T3 (n+6)) (.cmp .eq (.idx (.var 10) (.int 1)) (.lst [])) q (U (g.two (CB c) m))=_:=Aq (BM (AH s) ?r rfl) ?r NW;have f:(A3 d).isEmpty=false:=by cases d with|nil=>show absurd rfl H|cons _ _=>rfl
  rw[f]at A;have i:=Gb (P:=AN T3 (n+6)) (E:=λw=>(rowF _ (BQ (g.two _ m) w).1 (BQ (g.two _ m) w).2 _ _).toV) (b:=.Af _ 9 [.str "linear_le",.var 12]) (p:=.nm 12) (F2 (AH u) (Jb b)) (λw o=>⟨_,by rfl,B5 (AH (show upd (clear q [12,115]) 12 _ 42=_ from t)) ?r ?r rfl (aD false (Ax.up (m:=m) b (by show AQ (A2 _ _) x)) (Am.at (g:={g with other:=(g.two _ m).other}) ⟨(a w o).nd,(a w o).nz,(a w o).dm,(a w o).nr,(a w o).ln⟩) N (by show AZ v (Ay _ _)))⟩) (by show J Y ?_;show Br (show _<120 by show lf p (lf p (by simp+arith))) (by decide)) (Jb b);have B:=IH A (Aq (c:=.isin) (a:=.bool _) ?r i (fS _));have:(λw=>Hn (rowF false (BQ (g.two (CB c) m) w).1 (BQ (g.two (CB c) m) w).2 w.ps w.c))=λw=>Hn (rowF false (BQ g w).1 (BQ g w).2 w.ps w.c):=by funext w;have:=(Hp (g:=g.two (CB c) m) w).symm.trans (Hp (g:=g) w);show J this rfl
  rw[this]at B;show B
end
end
mutual
open A
noncomputable def inR(i:Int)(a:List Val):Bool:=decide (0<=i)&&decide (i<a.length)
def pick(i:Int)(a:List Val):Val:=if inR i a then a.getD i.toNat (.int 0)else a.headD (.int 0)
inductive EM(t:Val)(x:Nat)(n:Nat)(g3:GS)(x':Nat)(g4:GS):Prop
 |same (ht:t=.bool true) (hx:x'=x) (hg:g4=g3)
 |st (ht:t≠.bool true) (hs:SD g3 x t [(1,n)] x' g4)
inductive ET(g:GS)(p:Val)(t:Val)(ws:List Val)(v:Val)(g':GS):Prop
 |mk (x:Nat) (g3:GS) (x':Nat) (g4:GS) (hv:VO g (Bl p (.int 1) 1) x g3) (hm:EM t x ws.length g3 x' g4) (hc:CO g4 x' ws v g')
inductive Xo(zs:Zs)(ws:List Val)(v:Val)(g1 g':GS):Prop
 |num (i:Int) (hi:Dx zs (.int 0)=.int i) (hv:v=pick i ws) (hs:RS [.bool (inR i ws)] g1 g')
 |sum (ps:List (Nat×Int)) (c:Int) (hp:Dx zs (.int 0)=.sum ps c) (he:ET g1 (Dx zs (.int 0)) (.bool true) ws v g')
inductive Jn(g:GS)(zs:Zs)(ws:List Val)(v:Val)(g':GS):Prop
 |out (hA:anyF g (CB zs)=true) (hv:v=ws.headD (.int 0)) (hs:RS [.bool false] g g')
 |run (hA:anyF g (CB zs)=false) (g1:GS) (hq:G4 (CB zs) g g1) (h:Xo zs ws v g1 g')
def Fp(g L:GS):Prop:=L.other=g.other/\L.part=g.part
end
section
mutual
open A
variable{n O M r m:Nat}{g L l:GS}{f T:St}{P:Pg}{e:Env}{D y:Int}{R u:List Val}{o:Zs}{d:List Val}
def Up.gI(h:Up (g.at k) L):Up g L:=⟨h.vs,h.ts⟩
def NO{j o2:H5}{x A E:V}(k:AD P a e f=some (x,f))(p:AD P b e f=some (A,f))(h:BZ f j x A=some s)(q:AD P c e f=some (E,f))(i:BZ f o2 A E=some t):AD P (.chain a j b o2 c) e f=some (.bool (s&&t),f):=b1 k (b1 p (b1 h (by clear h;cases s with|false=>rfl|true=>show b1 q (m1 i rfl))))
def WT:∀(o:Zs)(p),((∃i,p=.int i)\/∃a c,p=.sum a c/\a≠[])->(∃i,Dx o p=.int i)\/∃a c,Dx o p=.sum a c/\a≠[]:=by intro o;induction o with|nil=>intro p h;show h|cons z j b=>intro p h;show b _ (by unfold Bl;cases EF _ with|nil=>show .inl ⟨_,rfl⟩|cons q j=>show .inr ⟨_,_,rfl,Dt _ _⟩)
def Am.fit(h:Am g D M w)(a:D<1000000)(b:M<60):Cm g w.ps/\w.ps.length+1<lim:=⟨h.Bc a,Ai (HX h.ln) (Br (show _ by show Nat.lt_succ_of_le b) (by decide))⟩
def UO(At:Aj t=true)(M2:Cm g t.ps)(FM:Am g D M p)(H1:D<999990)(Ev:M<50)(Go:e 32=some p.toV)(AC:e 42=some (.ref 1))(EQ:e 16=some t.toV)(s:∃B,e 10=some (.tup [B,.lst (A3 d)]))(Do:d≠[])(Fa:d.length<60)(FS:∀w∈d,Am g y r w)(IN:y<1000000)(Ix:r<60)(k:Wk (O+2*d.length+11) g){Db:Prop}(Ch:∀On v i q,Ao (AN T3 (n+6)) (FL.body.drop 6) e (U g)=some (.ret (Val.toV v),On,U (i.at q))->ET (cr g) p t d v (cr i)->Fp g i->Up g i->Wk O i->g.next<=q->Db):Db:=by
 (have S:=s;clear s;show Ac S λB s=>?_;(try clear S));have JP:=(Dy (w:=1) FM (Am.int (D:=1) (M:=0) 1 (by decide))).1;have F:=k.at (A1 _);have R:=JP.fit (show _ by show Aa H1 (by simp+arith)) (AZ Ev (Ay _ _));show M' (n:=n+2) F R.1 R.2 λx l Fk Y=>?_;have G:=Y.fr;have u1:=Y.up.gI;have P:=Y.wk F;let o:=upd e 55 (.int x);have W:A8 (AN T3 (n+6)) (FL.body.getD 6 .fail) e (U g)=some (.next,o,U l):=Az (B5 (AH AC) ?r ?r (AL (BI (AL (AH Go) (AL ?r ?r)) (IC (w:=1) FM (Am.int (D:=1) (M:=0) 1 (by decide)) (by decide) (AZ Ev (Ay _ _)))) ?r) Fk) ?r;have T:∀{e:Env}{f:St},e 10=some (.tup [B,.lst (A3 d)])->AD (AN T3 (n+6)) (.idx _ (.int 1)) e f=_:=λh=>BM (AH h) ?r rfl;have N:AD (AN T3 (n+6)) (.cmp .ne (.var 16) (.bool true)) o (U l)=_:=Aq (AH EQ) ?r (Qy (b:=.bool true) At ?r);have K:∀(Z:Nat)(A:GS)(C:Env),_->C 42=some (.ref 1)->_->BN l A->_->_->∃v i q,Ao _ (FL.body.drop 8) C (U A)=_/\_/\_/\_/\Wk O i/\_:=λZ A C a b c Op B w=>by show(Zy (i:=Z) w Do Fa λw NE=>(Am.up (FS w NE) (u1.trans B)).fit IN Ix) λv i q E H j Q m I=>⟨v,i,q,Ap (BL (B5 (AH b) ?r ?r (AL (AH a) (AL (T c) ?r)) E)),H.cr,j,Q,m,I⟩
 have V:=G.2.1;by_cases L:t=.bool true;·replace N:=(MW At).mpr L▸N;show Oy (K x l o ?r AC s BN.rfl Up.rfl (P.le (EJ (Ay _ _) _))) λv i q E H j Q m I=>Ch o v i q (AI W (AI (Bq N ?r ?r) E)) ⟨x,_,x,_,Y.cr,.same L rfl rfl,H⟩ ⟨j.1.trans G.1,j.2.2.trans G.2.2⟩ (u1.trans Q) m (AQ (AQ (A1 _) (AY V.symm)) I)
 ·skip;rw[(by cases h:Dq t _ with|false=>rfl|true=>show absurd ((MW At).mp h) L:Dq t (.bool true)=false)]at N;have Gc:(1:Int)<=d.length:=by clear Fa FS k Ch s F P T K;cases d with|nil=>show absurd rfl Do|cons _ _=>show J B9 ?_;(simp+arith;done)
  show aG (n:=n+1) (A:=x) (H:=[(1,d.length)]) P At (Dt _ _) (u1.ok M2) λz A Fs No u X Ok=>?_;let C:=upd o 55 (.int z);show Oy (K z A C ?r AC s u X Ok) λv i q E H j Q m I=>Ch C v i q (AI W (AI (BS N ?r (AI (Az (B5 (AH AC) ?r ?r (AL rfl (AL (AH EQ) (AL (BI (AL ?r (AL (Bk (AL (T s) ?r) (by show(?_:some _=_);unfold A3;rw[Al])) ?r)) (LV Gc)) ?r))) Fs) ?r) ?r)) E)) ⟨x,cr l,z,cr A,Y.cr,.st L No.cr,H⟩ ⟨j.1.trans (u.1.trans G.1),j.2.2.trans (u.2.2.trans G.2.2)⟩ ((u1.trans X).trans Q) m (by have:=u.2.1;show AQ (AQ (AQ (A1 _) (AY V.symm)) (AY this.symm)) I)
end
end
mutual
open A
def Fc(d:List Val):List Val:=d.filter λt=>!Dq t (.bool true)
inductive Xn(zs:Zs)(ws:List Val)(v:Val)(nl:List Val)(t:Val)(g2 g':GS):Prop
 |num (i:Int) (hi:Dx zs (.int 0)=.int i) (hv:v=pick i ws) (hn:nl=Fc [t,.bool (inR i ws)]) (hg:g'=g2)
 |sum (ps:List (Nat×Int)) (c:Int) (hp:Dx zs (.int 0)=.sum ps c) (hn:nl=Fc [t]) (he:ET g2 (Dx zs (.int 0)) t ws v g')
inductive HN(g:GS)(zs:Zs)(ws:List Val)(v:Val)(nl:List Val)(g':GS):Prop
 |out (hA:anyF g (CB zs)=true) (hv:v=ws.headD (.int 0)) (hn:nl=[.bool false]) (hg:g'=g)
 |run (hA:anyF g (CB zs)=false) (ts:List Val) (g1:GS) (t:Val) (g2:GS) (hr:Fx (CB zs) ts g g1) (ho:AO ts g1 t g2) (h:Xn zs ws v nl t g2 g')
structure Ir(g:GS)(zs:Zs)(ws:List Val)(B:Int)(L:Nat):Prop where
 Lp:0<=B
 hB:B<999990
 hz:∀z∈zs,Am g B L z.2/\(z.1.2 -z.1.1+1).natAbs<=1000000
 hl:zs.length*L<50
 hL:L<50
 Np:zs.length<30
 hp:Am g B L (Dx zs (.int 0))
 h0:ws≠[]
 QU:ws.length<60
 hw:∀w∈ws,Am g B L w
end
section
mutual
open A
variable{n O M d m:Nat}{g L c:GS}{f T:St}{P:Pg}{e:Env}{D y:Int}{R l:List Val}{b:Zs}{a:List Val}
def XR(h:Ax g g.next)(k:Ax L g.next)(o:L.other=(g.two R m).other):(U g).pop (U L)=U {L with other:=g.other}:=EV h k λi j=>by show J o (?_:(if _ then _ else _)=_);show J (AF (Av j)) (J (AF (Av (AZ j (A1 _)))) rfl)
def gb(h:inR i a=true):DT f (.lst (A3 a)) (.int i)=some (pick i a).toV:=by show AV ((Ct _ _).mp h) λj p=>Ac (O6 (A9 j)) λk q=>?_;clear j;obtain rfl:=q;have o:k<a.length:=cnt (Aa (A9 p) (by simp+arith));unfold pick;show J (AG h) (KQ (J D7 ?_));show J (Cz o) ?_;show J G0 ?_;show J (Cz o) rfl
def U9(h:a≠[]):DT f (.lst (A3 a)) (.int 0)=some (a.headD (.int 0)).toV:=by cases a with|nil=>show absurd rfl h|cons w r=>show KQ rfl
def Am.core(h:Am g D M w)(j:L.vars=g.vars):Am L D M w:=⟨h.nd,h.nz,λp i=>by unfold Ad;show J j ?_;show h.dm p i,h.nr,h.ln⟩
def XS(k:Wk O g)(h:g.next+2<=m):Wk O (g.two R m):=⟨Ax.up k.low (show _ by show AQ (A2 _ _) h),k.l1,k.l2,k.l3,k.DW⟩
def KH(j:SY g b a e)(q:a≠[]):AD (AN T3 (n+6)) (.ite (.cmp .ne (.idx (.var 10) (.int 1)) (.lst [])) (.idx (.idx (.var 10) (.int 1)) (.int 0)) (.int 0)) e (U G)=some ((a.headD (.int 0)).toV,U G)/\∀(i)(v:V),Dx b (.int 0)=.int i->AD (AN T3 (n+6)) (.bi .isInt [.var 32]) (upd e 16 v) (U G)=some (.bool true,U G)/\AD (AN T3 (n+6)) (.chain (.int 0) .le (.var 32) .lt (.bi .len [.idx (.var 10) (.int 1)])) (upd e 16 v) (U G)=some (.bool (inR i a),U G)/\AD (AN T3 (n+6)) (.idx (.idx (.var 10) (.int 1)) (.ite (.chain (.int 0) .le (.var 32) .lt (.bi .len [.idx (.var 10) (.int 1)])) (.var 32) (.int 0))) (upd e 16 v) (U G)=some ((pick i a).toV,U G):=by
 have u:(!(A3 a).isEmpty)=true:=by clear j;cases a with|nil=>show absurd rfl q|cons _ _=>rfl
 have k:∀{e},e 10=some (.tup [.tup (b.map λz=>Aw z.1),.lst (A3 a)])->AD (AN T3 (n+6)) (.idx (.var 10) (.int 1)) e (U G)=_:=λh=>BM (AH h) ?r rfl;show⟨E6 (Aq (k j.Lo) ?r (N5.trans (J u rfl))) ?r (BM (k j.Lo) ?r (U9 q)),λi v t=>?_⟩;have s:=j.QP.trans (J t rfl);have r:=j.Lo;have o:AD _ (.chain (.int 0) .le _ .lt (.bi .len [_])) _ _=some (.bool (inR i a),_):=NO ?r (AH s) ?r (Bk (AL (k r) ?r) (by show(?_:some _=_);unfold A3;rw[Al])) ?r;show⟨Bk (AL (AH s) ?r) ?r,o,?_⟩;cases p:inR i a with|true=>rw[p]at o;show BM (k r) (E6 o ?r (AH s)) (gb p)|false=>rw[p]at o;show BM (k r) (Fz o ?r ?r) ?_;unfold pick;show J p (U9 q)
def Z5(k:Wk (O+2*b.length+2*a.length+12) g)(Ch:g.part=none)(j:Ir g b a D M){At:Prop}(AC:∀v L,Ae T3 (n+7) 34 (He b a) (U g)=some (Val.toV v,U L)->Jn (cr g) b a v (cr L)->Fp g L->Up g L->Wk O L->g.next<=L.next->At):At:=by
 show Gr (UN (n:=n) k.low j.Lp (H6 j.hB (by decide)) j.hz (Br j.hl (by decide)) (Br j.hL (by decide)) (Br j.Np (by decide)) j.h0) λe m r W Z B=>AV (Kf j.Lp λz h=>(j.hz z h).1) λH1 V=>?_;generalize u:g.two _ m=G at Z B;have H:Wk _ G:=Mine.AU u (XS k W);have F:cr G=_:=Mine.AU u rfl;have l:Up g G:=Mine.AU u ⟨⟨[],(Bv _).symm⟩,⟨[],(Bv _).symm⟩⟩;have x:G.part=_:=Mine.AU u Ch;have I:_<=G.next:=Mine.AU u (AQ (A2 _ _) W);have Y:∀{v:Val}{X:GS}{T},Ao (AN T3 (n+6)) (FL.body.drop 3) e (U G)=some (.ret v.toV,T,U X)->Fp G X->Ae T3 (n+7) 34 (He b a) (U g)=_:=λ{v X T}h t=>by have:=DR (w:=34) (D:=He b a) ?r ?r (Z _ h);(show J this ?_;show J (XR k.low ⟨k.low.1,λFa Fk p=>by rw[t.2,x]at p;show AS p⟩ (J u t.1)) ?_;rfl)
 have f:∀{X:GS},Fp G X->Fp g {X with other:=_}:=λ{X}h=>⟨rfl,J h.2 (J x (J Ch rfl))⟩;cases E:anyF g _ with|true=>
  rw[E]at B;show TP (O:=O) (t:=.bool _) (H.le (by simp+arith)) x ?r λX p o=>AC _ _ (Y (Ap (BS B ?r (AI (D3 (B5 (AH r.IK) ?r ?r rfl p)) (Ap (BL (KH r j.h0).1))))) ⟨o.fr.1,o.fr.2.2⟩) (.out ?_ rfl ?_) (f ⟨o.fr.1,o.fr.2.2⟩) (l.trans ⟨o.up.vs,o.up.ts⟩) ?_ (J o.fr.2.1 I);·show Mine.AU E ?_;unfold anyF;congr 1;funext w;rw[Hp]
  ·have:=o.cr;rw[F]at this;show this
  ·have:=o.wk (H.le (by simp+arith):Wk (O+1) G);show⟨⟨this.low.1,this.low.2⟩,this.l1,this.l2,this.l3,this.DW⟩|false=>
  rw[E]at B;show aQ (n:=n) (O:=O+2*a.length+11) (H.le (J V (by simp+arith))) x k.low.1 (Mine.AU u (Jb k.low)) (λw h=>(H1 w h).core (Mine.AU u rfl)) (H6 j.hB (by decide)) (Br j.hL (by decide)) λFS Gc S=>BG (S.facts (O:=O+2*a.length+11)) λs u1 C=>?_;have C:=C (H.le (J V (by simp+arith)));let FM:=upd e 16 (.bool true);have s3:A8 _ (FL.body.getD 3 .fail) e _=_:=Bq B ?r ?r;have EQ:A8 (AN T3 (n+6)) (FL.body.getD 4 .fail) e (U G)=some (_,FM,_):=Az (B5 (AH r.IK) ?r ?r (AL (AH r.U7) ?r) Gc) ?r;have c:=S.cr;rw[F]at c;have R:anyF (cr g) (CB b)=false:=by show Mine.AU E ?_;unfold anyF;congr 1;funext w;rw[Hp]
  rcases WT b _ (.inl ⟨0,rfl⟩)with⟨i,d⟩|⟨IN,Fs,Do,No⟩;·show TP (n:=n+3) (t:=.bool (inR i a)) (C.le (Ft (A2 _ _) (Ay _ _))) (s.2.2.trans x) ?r λX p o=>BG ((KH (n:=n) (G:=FS) r j.h0).2 i (.bool true) d) λIx JP Ok=>BG ((KH (n:=n) (G:=X) r j.h0).2 i (.bool true) d) λNE NE M2=>?_;have t:Fp G X:=⟨o.fr.1.trans s.1,o.fr.2.2.trans s.2.2⟩;have A:=o.wk (C.le (Ft (A2 _ _) (Ay _ _)));show AC _ _ (Y (AI s3 (AI EQ (Ap (BS Ix ?r (AI (D3 (B5 (AH r.IK) ?r ?r (AL JP ?r) p)) (Ap (BL M2))))))) t) (.run R _ c (.num i d rfl o.cr)) (f t) ((l.trans u1).trans ⟨o.up.vs,o.up.ts⟩) ⟨⟨A.low.1,A.low.2⟩,A.l1,A.l2,A.l3,A.DW⟩ (J o.fr.2.1 (J s.2.1 I))
  ·have P:FM 32=_:=r.QP;have y:=l.trans u1;show UO (n:=n) (t:=.bool _) ?r (CP _) (j.hp.up y) j.hB j.hL P r.IK ?r ⟨_,r.Lo⟩ j.h0 j.QU (λw h=>(j.hw w h).up y) (H6 j.hB (by decide)) (Br j.hL (by decide)) C λT v K q p Go Q Ev N Db=>?_;have t:Fp G _:=⟨Q.1.trans s.1,Q.2.trans s.2.2⟩;show AC v {K.at q with other:=_} (Y (AI s3 (AI EQ (AI (Bq (Bk (AL (AH P) ?r) (J Do rfl):_=some (.bool _,_)) ?r ?r) p))) t) (.run R _ c (.sum IN Fs Do Go)) (f t) (y.trans ⟨Ev.vs,Ev.ts⟩) ⟨Ax.up (g:=K) (m:=q) ⟨k.low.1,λFa Fk p=>by rw[Q.2,s.2.2,x]at p;show AS p⟩ (by have:=s.2.1;show AQ I (AQ (AY this.symm) Db)),N.l1,N.l2,N.l3,N.DW⟩ (by show(?_:_<=q);have:=s.2.1;show AQ I (AQ (AY this.symm) Db))
end
end
section
mutual
open A
variable{n O M p m:Nat}{g L o:GS}{f T:St}{P:Pg}{e:Env}{D y:Int}{R q:List Val}{i:Zs}{c:List Val}
def Q6(b:g.part=some (a,l)):(noteG g t).part=some (a,l++A3 (Fc [t]))/\(noteG g t).vars=g.vars/\(noteG g t).BD=g.BD/\(noteG g t).made=g.made/\(noteG g t).other=g.other/\(noteG g t).next=g.next:=by unfold noteG;(show J b ?_;show J (by unfold Fc;show J GO ?_;cases Dq t _<;>rfl:Fc [t]=if Dq t (.bool true)then[]else[t]) ?_);cases Dq t _ with|true=>show⟨b.trans (by show(?_:_=some (a,l++[]));rw[Bv]),rfl,rfl,rfl,rfl,rfl⟩|false=>show⟨rfl,rfl,rfl,rfl,rfl,rfl⟩
def f'(a b):Fc (a++b)=Fc a++Fc b:=List.filter_append ..
def Cm.core(h:Cm g d)(j:L.vars=g.vars):Cm L d:=λa b=>by
 have:Ad L a.1=Ad g a.1:=by unfold Ad;(show J j ?_;rfl)
 show J this ?_;show h a b
def Z4(k:Wk (O+6*i.length+2*c.length+15) g)(Re:g.part=some (a,l))(AC:6<=a)(Do:l.length+3<lim)(j:Ir g i c D M)(a1:∀d o t NE,Fx (CB i) d (cr g) o->AO d o t NE->Cm NE t.ps){Go:Prop}(EQ:∀v L TW,Ae T3 (n+7) 34 (He i c) (U g)=some (Val.toV v,U L)->HN (cr g) i c v TW (cr L)->L.other=g.other->L.part=some (a,l++A3 TW)->Up g L->Wk O L->g.next<=L.next->Go):Go:=by
 show Gr (UN (n:=n) k.low j.Lp (H6 j.hB (by decide)) j.hz (Br j.hl (by decide)) (Br j.hL (by decide)) (Br j.Np (by decide)) j.h0) λe m u Op Ps N=>AV (Kf j.Lp λz h=>(j.hz z h).1) λZB Ch=>?_;generalize x:g.two _ m=G at Ps N;have B:Wk _ G:=Mine.AU x (XS k Op);have WP:G.vars=g.vars:=Mine.AU x rfl;have Ix:cr G=cr g:=Mine.AU x rfl;have ce:Up g G:=Mine.AU x ⟨⟨[],(Bv _).symm⟩,⟨[],(Bv _).symm⟩⟩;have S:G.part=_:=Mine.AU x Re;have Ev:_<=G.next:=Mine.AU x (AQ (A2 _ _) Op);have Y:∀{X:GS}{Q},X.part=some (a,Q)->Ax X _:=λ{X Q}h=>⟨k.low.1,λb H1 s=>by replace s:=h▸s;(show AV (s2 s) λy XV=>?_;clear s;subst y XV);show k.low.2 _ _ Re⟩;have Z:∀{v:Val}{X:GS}{Gc}{Q},Ao (AN T3 (n+6)) (FL.body.drop 3) e (U G)=some (.ret v.toV,Gc,U X)->_->X.part=some (a,Q)->Ae T3 (n+7) 34 (He i c) (U g)=_:=λ{v X Gc Q}h am ap=>by have:=DR (w:=34) (D:=He i c) ?r ?r (Ps _ h);show J this (J (XR k.low (Y ap) (J x am)) rfl)
 have At:∀{b},anyF g _=b->anyF (cr g) (CB i)=b:=λh=>by show Mine.AU h ?_;unfold anyF;congr 1;funext w;rw[Hp]
 cases H:anyF g _ with|true=>
  rw[H]at N;have s:=Pl (n:=n+3) (g:=G) (t:=.bool false) B.low S AC (Ai (A2 _ _) Do) ?r;show Kx (Q6 S) λp K P R FM Fa=>EQ _ {noteG G (.bool false)with other:=_} _ (Z (Ap (BS N ?r (AI (D3 (B5 (AH u.IK) ?r ?r rfl s)) (Ap (BL (KH u j.h0).1))))) FM p) (.out (At H) rfl rfl ?_) rfl p ⟨⟨[],?_⟩,⟨[],?_⟩⟩ ?_ ?_;·show(?_:cr (noteG G _)=_);(rewrite[Q5];show J Ix ?_;rfl)
  ·show J K (J WP ?_);rewrite[Bv];rfl
  ·show J P (Mine.AU x ?_);rewrite[Bv];rfl
  ·show⟨Ax.up (Y p) (J Fa Ev),?_,?_,?_,?_⟩;·show J K ?_;have:=B.l1;show lf this (by simp+arith)
   ·show J R ?_;have:=B.l2;show lf this (by simp+arith)
   ·show J P ?_;have:=B.l3;show lf this (by simp+arith)
   ·show J R ?_;show B.DW
  ·show J Fa ?_;show Ev|false=>
  rw[H]at N;(show aP (n:=n) (O:=O+2*c.length+12) (B.le (J Ch (by simp+arith))) S AC (Ai (A2 _ _) Do) k.low.1 (Mine.AU x (Jb k.low)) (λw h=>(ZB w h).core WP) (H6 j.hB (by decide)) (Br j.hL (by decide)) (by show J Ch ?_;have:=j.Np;show lf this (lf this (by simp+arith))) λt d ck W1 bd y On T JP ar=>?_);show HG (On.facts (O:=O+2*c.length+12+d.length+3)) λdL u1 ch db al=>BG (T.facts (O:=O+2*c.length+12)) λu2 C ac=>?_;have C:=C (ch (B.le (J al (J Ch (by simp+arith)))));show Kx (Q6 (t:=t) (JP.2.2.trans S)) λp K P R FM Fa=>?_;generalize A:(noteG W1 t).at bd=r at y;have Fs:r.vars=_:=Mine.AU A K;have t3:r.BD=_:=Mine.AU A P;have TE:r.made=_:=Mine.AU A R;have Tk:r.other=_:=Mine.AU A (FM.trans JP.1);have V:r.part=_:=Mine.AU A p;have f:_<=r.next:=Mine.AU A (AQ Ev ar);have IN:cr r=_:=Mine.AU A (Q5 t);have q:=(ce.trans (u1.trans u2)).trans ⟨⟨[],by(show J Fs ?_;rewrite[Bv];rfl)⟩,⟨[],by(show J t3 ?_;rewrite[Bv];rfl)⟩⟩;have E:Wk _ r:=⟨Ax.up (Y V) f,J Fs C.l1,J TE C.l2,J t3 C.l3,J TE C.DW⟩;let Wp:=upd e 16 t.toV;have s3:A8 _ (FL.body.getD 3 .fail) e _=_:=Bq N ?r ?r;have Uf:A8 (AN T3 (n+6)) (FL.body.getD 4 .fail) e (U G)=some (_,Wp,_):=Az (B5 (AH u.IK) ?r ?r (AL (AH u.U7) ?r) y) ?r;have I:=On.cr;replace I:=Ix▸I;rcases WT i _ (.inl ⟨0,rfl⟩)with⟨F,Db⟩|⟨a2,H1,Sc,ds⟩
  ·have s:=Pl (n:=n+3) (g:=r) (t:=.bool (inR F c)) E.low V AC (by
   show J Bp ?_;have:(A3 (Fc [t])).length<=1:=by unfold A3 Fc;rw[Al];show H9 _ _
   show lf this (lf Do (by simp+arith))) ?r;show Kx (Q6 V) λFk Tl T0 UF cd UV=>BG ((KH u j.h0).2 F _ Db) λbv ca f0=>BG ((KH u j.h0).2 F _ Db) λci ci cc=>EQ _ {noteG r _ with other:=_} _ (Z (AI s3 (AI Uf (Ap (BS bv ?r (AI (D3 (B5 (AH u.IK) ?r ?r (AL ca ?r) s)) (Ap (BL cc))))))) (cd.trans Tk) Fk) (.run (At H) d _ t _ I T.cr (.num F Db rfl rfl ?_)) rfl ?_ ⟨?_,?_⟩ ?_ ?_;·show(?_:cr (noteG r _)=_);(rewrite[Q5];show J IN ?_;rfl)
   ·skip;show J Fk ?_;rewrite[DN];show J (show[t,_]=[t]++_ from rfl) ?_;rewrite[f'];unfold A3;show J C8 rfl
   ·show J Tl ?_;show q.vs
   ·show J T0 ?_;show q.ts
   ·show⟨Ax.up (Y Fk) (J UV f),?_,?_,?_,?_⟩;·show J Tl ?_;have:=E.l1;show lf this (by simp+arith)
    ·show J UF ?_;have:=E.l2;show lf this (by simp+arith)
    ·show J T0 ?_;have:=E.l3;show lf this (by simp+arith)
    ·show J UF ?_;show E.DW
   ·show J UV ?_;show f
  ·have No:=u.QP;show UO (n:=n) (e:=Wp) ac ((a1 d _ t _ I T.cr).core Fs) (j.hp.up q) j.hB j.hL No u.IK ?r ⟨_,u.Lo⟩ j.h0 j.QU (λw h=>(j.hw w h).up q) (H6 j.hB (by decide)) (Br j.hL (by decide)) (E.le (by show A1 _)) λGc v X0 be s Ok M2 WF W Rs=>?_;have FS:=M2.2.trans V;rw[IN]at Ok;show EQ v {X0.at be with other:=_} _ (Z (AI s3 (AI Uf (AI (Bq (Bk (AL (AH No) ?r) (by show J Sc ?_;rfl)) ?r ?r) s))) (M2.1.trans Tk) FS) (.run (At H) d _ t _ I T.cr (.sum a2 H1 Sc rfl Ok)) rfl FS (q.trans ⟨WF.vs,WF.ts⟩) ⟨Ax.up (Y FS) (by show AQ f Rs),W.l1,W.l2,W.l3,W.DW⟩ (by show AQ f Rs)
end
end
mutual
open A
noncomputable def txt(s:String):SK:=.txt (Str.ofString s)
def JX(a:List Int)(s:Int)(ep:Nat):A':=.dict [(txt "cells",.lst (a.map V.int)),(txt "spot",.int s)] ep
noncomputable def GS.A4(g:GS)(o:A'):GS:={g with other:=λi=>if i=0 then some o else g.other i}
noncomputable def GS.Bh(g:GS)(o:A')(k:Nat)(R:List V):GS:={g with other:=λi=>if i=0 then some o else if i=k then some (.list R)else g.other i,next:=k+1}
structure Cells(cs:List Int):Prop where
 h0:cs≠[]
 hc:∀c∈cs,0<=c/\c<1000003
 hl:cs.length<1000
end
section
mutual
open A
variable{n O M d m k:Nat}{g L i:GS}{f T:St}{P:Pg}{e:Env}{o I:A'}{c:List Int}{s:Int}{ep:Nat}{R:List V}
def WE(a:g.part=none):(U g).objs 0=g.other 0:=by show(?_:Cr g 0=_);unfold Cr;(show J a ?_;rfl)
def iA(b:g.part=none):(U g).set 0 o=U (g.A4 o):=Ij ((WE (g:=g.A4 o) b).trans (AG rfl:(if 0=0 then some o else g.other 0)=some o)) (λh a=>MD (AF a).symm) (.inr rfl)
def Wn:(g.A4 o).A4 I=g.A4 I:=by
 unfold GS.A4;congr 1;funext b;dsimp only;by_cases a:b=0;·show J (AG a) (J (AG a) rfl)
 ·show J (AF a) (J (AF a) (J (AF a) rfl))
def MR:(g.Bh o k R).A4 I=g.Bh I k R:=by
 delta GS.A4 GS.Bh;congr 1;funext b;dsimp only;by_cases a:b=0;·show J (AG a) (J (AG a) rfl)
 ·show J (AF a) (J (AF a) (J (AF a) rfl))
def N0{o2:A'}(j:k≠0):(g.lay k o2).A4 I=(g.A4 I).lay k o2:=by
 delta GS.A4 GS.lay;congr 1;funext h;dsimp only;by_cases a:h=0;·show J (AG a) (J (AF (Av (lf (AY a) (lf (Qz (by simp+arith) j) (by simp+arith))))) (J (AG a) rfl))
 ·show J (AF a) ?_;by_cases b:h=k;·show J (AG b) (J (AG b) rfl)
  ·show J (AF b) (J (AF b) (J (AF a) rfl))
def Rk(j:k≠0):(g.A4 o).lay k (.list R)=g.Bh o k R:=by
 delta GS.A4 GS.lay GS.Bh;congr 1;funext h;dsimp only;by_cases a:h=0;·show J (AG a) (J (AF (Av (lf (AY a) (lf (Qz (by simp+arith) j) (by simp+arith))))) (J (AG a) rfl))
 ·show J (AF a) ?_;by_cases b:h=k;·show J (AG b) (J (AF a) rfl)
  ·show J (AF b) (J (AF a) rfl)
def KR(h:f.objs j=some (.dict z ep))(a:DA z (.txt q)=some v):DT f (.ref j) (.str q)=some v:=b1 h a
def Wq(h:f.objs j=some (.dict z ep))(a:z.length<lim):F9 f (.ref j) (.str q) v=some (f.set j (.dict (DZ z (.txt q) v) (ep+1))):=b1 rfl (b1 h (AG a))
def Nj(h:f.objs j=some (.dict z ep)):E3 f (.ref j) .get [.str q,H]=some ((DA z (.txt q)).getD H,f):=(b1 (La h) rfl:_)
def So(k:Nat)(o:A'):Prop:=∃(c:List Int)(s ep:Nat),o=JX c s ep/\Cells c/\s+k<=100000
def So.le{a b:Nat}(h:So a o)(j:b<=a):So b o:=h.imp λc h=>h.imp λs h=>h.imp λep h=>⟨h.1,h.2.1,AQ (EJ j _) h.2.2⟩
def J5{a:Int}{q:Nat}(y:g.part=none)(E:g.other 0=some o)(h:So (q+1) o)(r:0<a){u:Prop}(G:∀H I,0<=H->H<a->So q I->Ae T3 (n+1) 100 [.ref 0,.int a] (U g)=some (.int H,U (g.A4 I))->u):u:=by
 show Il h λc s ep B j z=>?_;have t:(U g).objs 0=some (JX c s ep):=(WE y).trans (E.trans (AE some B));have p:(0:Int)<c.length:=JK (List.length_pos_iff.mpr j.h0);let N:Env:=upd (upd (λQ=>none) 19 (.int a)) 18 (.ref 0);let A:Env:=upd (upd N 59 (.lst (c.map V.int))) 44 (.int s);have D:s%c.length<c.length:=Nat.mod_lt _ (List.length_pos_iff.mpr j.h0);have x:∀{f:St}{l b:Int},0<b->Cc f .mod (.int l) (.int b)=some (.int (l%b)):=λ{f l b}v=>Mine.AU (O7 _ (D6 v)) (AF (HR v));have C:∀{f:St},Cc f .fdiv (.int s) (.int c.length)=some (.int (s/c.length:Int)):=λ{f}=>Mine.AU (Int.fdiv_eq_ediv_of_nonneg _ (D6 p)) (AF λh=>h.elim (HR p) λh=>absurd (BH j.hl) (Nat.not_le_of_lt (AZ (by decide) h)));have w:∀{f:St},Cb f .len [.lst (c.map V.int)]=some (.int c.length,f):=λ{f}=>by show(?_:some (V.int (c.map V.int).length,f)=_);rw[Al]
 show G ((c[s%c.length]+s/c.length*(2*s+1))%a) (JX c (s+1:Nat) (ep+1)) (Int.emod_nonneg _ (HR r)) (Int.emod_lt_of_pos _ r) ⟨c,s+1,ep+1,rfl,j,AQ (AY (Mv ..)) z⟩<|F0 (B:=T3) ?r ?r (AI (AC:=A) (T:=U g) (Az (CI (AL (BM (AH ?r) ?r (KR t ?r)) (AL (BM (AH ?r) ?r (KR t ?r)) ?r))) ?r) (AI (AC:=A) (T:=U (g.A4 (JX c (s+1:Nat) (ep+1)))) (Az (BA (AH ?r) ?r ?r) (Kg (AH ?r) ?r ((Wq t (by show(?_:2<lim);decide)).trans (AE some (iA y))))) (Ap (BL (BA (BA (BM (AH (v:=.lst (c.map V.int)) ?r) (BA (AH ?r) (Bk (AL (AH ?r) ?r) w) ((x p).trans ?r)) (KQ (by(show J D7 ?_;show J (Cz D) ?_);rfl))) (BA (BA (AH ?r) (Bk (AL (AH ?r) ?r) w) C) (BA (BA ?r (AH ?r) (F6 (C4 (by decide)))) ?r ?r) (F6 (C4 (AQ (Nat.div_le_self s c.length) (AQ (A2 _ _) (AQ z (by decide))))))) ?r) (AH ?r) (x r))))))
def Zx{p:Type}{F:p->V}{Q:List p}{q:Nat}(v:g.part=none)(u:g.other 0=some o)(h:So (q+1) o)(x:Q≠[]){a:Prop}(y:∀j I,j∈Q->So q I->Ae T3 (n+2) 101 [.ref 0,.lst (Q.map F)] (U g)=some (F j,U (g.A4 I))->a):a:=J5 (n:=n) (a:=(Q.map F).length) v u h (JK (IA (List.length_pos_iff.mpr x) (Al F).symm)) λA I r t w j=>(O6 r).elim λl z=>by subst z;have b:l<Q.length:=IA (Iy.mp t) (Al F);show y Q[l] I (LA b) w (F0 (B:=T3) ?r ?r (Ap (BL (BM (AH ?r) (BI (AL ?r (AL (Bk (AL (AH ?r) ?r) ?r) ?r)) j) (KQ (J D7 (AE (Option.map F) (Cz b))))))))
end
end
mutual
open A
set_option genCtorIdx false in
inductive El where
 |num (t:Int×Int×Int)
 |F' (t:Bool)
 |b
 |nb
noncomputable def t3(t:Int×Int×Int):V:=.tup [.int t.1,.int t.2.1,.int t.2.2]
def El.toV:El->V|.num t=>t3 t|.F' t=>.bool t|.b=>.str "b"|.nb=>.str "not b"
structure Ca where
 bits:Bool
 DM:List (Int×Int)
 some:List El
 indexes:List (Int×Int×Int)
 sign:Sg
 other:Int×Int×Int
 top:Bool
 want:Bool
 C':Bool
def R2(B:Ca):List (SK×V):=[(txt "bits",.bool B.bits),(txt "ranges",.tup (B.DM.map Aw)),(txt "some",.lst (B.some.map El.toV)),(txt "indexes",.lst (B.indexes.map t3)),(txt "sign",B.sign.toV),(txt "other",t3 B.other),(txt "top",.bool B.top),(txt "want",.bool B.want),(txt "beside",.bool B.C')]
def EY(B:Ca):A':=.dict (R2 B) 5
noncomputable def Dz:Int->List (Int×Int)->Int|a,[]=>a|a,r::b=>Dz (a*(r.2-r.1+1)) b
def D0(D C:Int)(t:Int×Int×Int):Prop:=-D<=t.1/\t.1<=D/\-D<=t.2.1/\t.2.1<=D/\-C<=t.2.2/\t.2.2<=C
def Lh(a:Bool):El->Prop|.num t=>a=false/\D0 1 2 t|_=>a=true
def Ep(r:Int×Int):Prop:=-1<=r.1/\r.1<=1/\r.1<=r.2/\r.2<=r.1+2
structure EK(u:Ca):Prop where
 rn:u.DM.length=1\/u.DM.length=2
 rb:∀r∈u.DM,Ep r
 sl:(u.some.length:Int)=Dz 1 u.DM
 sb:∀e∈u.some,Lh u.bits e
 il:u.indexes.length=u.DM.length
 ib:∀t∈u.indexes,D0 3 5 t
 ob:D0 1 2 u.other
end
section
mutual
open A
variable{n O M b m k:Nat}{g L l G:GS}{f T:St}{P:Pg}{e AC:Env}{o I:A'}{d:List Int}{s:Int}{ep:Nat}{R:List V}
def Nq(h:AD P j e f=some (.int i,f))(a:-lim<i/\i<lim):C2 P (.DL j) e f=some (Ia 0 i,none,f):=b1 h (AG a)
def Ko(h:w x e f=some (.next,AC,T))(a:Cw w none u AC T=some r):Cw w none (x::u) e f=some r:=b1 h (by dsimp only;show J (AG (by trivial)) ?_;show a)
def draws{p:Type}{F:p->V}{Q:List p}{w:V->St->Option (List V×St)}{a:Gd}{q:Nat}(C:∀x q o,So (q+1) o->∀{c:Prop},(∀j I,j∈Q->So q I->w x (U (G.A4 o))=some ([F j],U (G.A4 I))->c)->c)(D:∀o,DY (U (G.A4 o)) a):∀(u:List V)(o:A'),So (q+u.length) o->∀{c:Prop},(∀(z:List p)I,So q I->Dr w a u (U (G.A4 o))=some (z.map F,U (G.A4 I))->z.length=u.length->(∀j∈z,j∈Q)->c)->c:=by intro u;induction u with|nil=>showλo h c i=>i [] o h rfl rfl (CP _)|cons x u r=>showλo h c i=>C x (q+u.length) o h λj H B y t=>r H y λz o2 A v E m=>i (j::z) o2 A (b1 t (by dsimp only;show J (AG (D _)) ?_;show m1 v rfl)) (AE Nat.succ E) (Bo.mpr ⟨B,m⟩)
def En(i:g.part=none)(h:6<=k):Ax g k:=⟨h,λa j c=>by rw[i]at c;show AS c⟩
def Kk(c:g.part=none)(a:6<=k):(U (g.Bh o k R)).objs k=some (.list R):=by have:=N8 (g:=g.Bh o k R) (En c a);show this.trans (?_:(if _ then _ else _)=_);show J (AF (Dd (AZ (Ay _ _) a))) (J (AG rfl) rfl)
def ir(h:g.part=none)(a:6<=k):(U (g.Bh o k R)).set k (.list c)=U (g.Bh o k c):=Mine.AU (Rk (Dd (AZ (Ay _ _) a))) (Mine.AU (Rk (Dd (AZ (Ay _ _) a))) (L1 (En h a)))
def XW{i q:Nat}{c:List (Int×Int)}{w:Bool}{a:Int}(u:g.part=none)(x:6<=k)(EQ:So (q+2) o)(y:c.length=i)(Db:i<10)(Do:a.natAbs<=1000000)(E:e 18=some (.ref 0))(Ch:e 60=some (.bool w))(H:e 62=some (.ref k))(At:e 19=some (.int a)){A:Prop}(Ev:∀r I,So q I->Ep r->(w=false->r.2<=r.1+1)->((BP (.nm 25) (.int i) e).bind λe=>Ao (AN T3 (n+1)) (ES GL 2) e (U (g.Bh o k (c.map Aw))))=some (.next,upd (upd (upd e 25 (.int i)) 4 (.int r.1)) 19 (.int (a*(r.2-r.1+1))),U (g.Bh I k ((c++[r]).map Aw)))->A):A:=by
 let v:Int:=if w then 3 else 2;have z:0<v/\v<=3/\(w=false->v=2):=by show(?_:0<(if w then(3:Int)else 2)/\(if w then(3:Int)else 2)<=3/\(w=false->(if w then(3:Int)else 2)=2));cases w<;>decide
 show J5 (n:=n) (a:=3) (g:=g.Bh o k (c.map Aw)) u ?r EQ (by decide) λj Q Y b m C=>?_;rw[MR]at C;show J5 (n:=n) (a:=v) (g:=g.Bh Q k (c.map Aw)) u ?r m z.1 λt o2 d B s2 D=>?_;rw[MR]at D;have N:=λR=>Kk (g:=g) (o:=o2) (R:=R) u x;have l:((c++[(j-1,j-1+t)]).map Aw)[i]?=some (Aw (j-1,j-1+t)):=by show J D7 ?_;show J (List.getElem?_append_right (AY y)) ?_;show J y ?_;rewrite[Nat.sub_self];rfl
 let p:Env:=upd (upd e 25 (.int i)) 4 (.int (j-1));have f:j-1<=j-1+t:=Int.le_add_of_nonneg_right d;show Ev (j-1,j-1+t) o2 s2 ⟨(Int.sub_le_sub_right Y 1:0-1<=j-1),(Int.sub_le_sub_right (Mo b:j<=2) 1:j-1<=2-1),f,Int.add_le_add_left (Mo (Fo B z.2.1)) _⟩ (λh=>Int.add_le_add_left (Mo (Fo B (Cy (z.2.2 h)))) _)<|b1 (a:=upd e 25 (.int i)) ?r (AI (AC:=p) (T:=U (g.Bh Q k (c.map Aw))) (Az (BA (BI (AL (AH (show(upd e 25 (.int i)) 18=_ from E)) ?r) C) ?r ?r) ?r) (AI (AC:=p) (T:=U (g.Bh o2 k ((c++[(j-1,j-1+t)]).map Aw))) (D3 (G' (AH (show p 62=_ from H)) (JT (Kk u x)).1 (AL (CI (AL (AH ?r) (AL (BA (AH ?r) (BI (AL (AH (show p 18=_ from E)) (AL (v:=.int v) (JE (AH (show p 60=_ from Ch)) ?r (by show(?_:(if w=true then _ else _)=some (V.int (if w then 3 else 2),_));cases w<;>rfl)) ?r)) D) ?r) ?r))) ?r) ((LN (N _) (J (Al _) (J y (Br Db (by decide))))).trans (J (ir u x) (J C8 rfl))))) (AI (Az (BA (AH (show p 19=_ from At)) (BA (BA (BM (BM (AH (show p 62=_ from H)) (AH ?r) (Lr (N _) l)) ?r (Gg (x:=1) ?r)) (AH ?r) ?r) ?r ?r) (F6 (C4 Do))) ?r) ?r)))
end
end
mutual
open A
noncomputable def nums:List (Int×Int×Int):=[(0,0,0),(0,0,1),(0,0,2),(1,0,0),(0,1,0),(0,1,1)]
def OE(b:Bool):List El:=if b then[.F' true,.F' false,.b,.nb]else nums.map .num
noncomputable def RL(H:Int):List (Int×Int×Int):=[(0,0,H-1),(1,0,0),(0,1,0),(1,0,-1),(-1,0,2),(1,1,0)]
structure PL(g:GS)(f b:Bool)(rs:List (Int×Int))(QC:List El)(Qm:List (Int×Int×Int))(ρ:Env):Prop where
 IJ:ρ 18=some (.ref 0)
 QQ:ρ 60=some (.bool f)
 U8:ρ 61=some (.bool b)
 Nm:ρ 62=some (.ref g.next)
 h7:ρ 7=some (.lst (nums.map t3))
 Nl:ρ 20=some (.lst (QC.map El.toV))
 QO:ρ 27=some (.lst (Qm.map t3))
 rn:rs.length=if f then 1 else 2
 rb:∀r∈rs,Ep r/\(f=false->r.2<=r.1+1)
 sl:(QC.length:Int)=Dz 1 rs
 sb:∀e∈QC,Lh b e
 il:Qm.length=rs.length
 ib:∀t∈Qm,D0 3 5 t
end
section
mutual
open A
variable{n O M d m k:Nat}{g L l G:GS}{f T:St}{P:Pg}{e AC:Env}{o I:A'}{i:List Int}{s:Int}{ep:Nat}{R:List V}
def JA{a:Int}{q:Nat}(t:G.part=none)(h:So (q+1) o)(r:0<a){c:Prop}(u:∀H I,0<=H->H<a->So q I->Ae T3 (n+1) 100 [.ref 0,.int a] (U (G.A4 o))=some (.int H,U (G.A4 I))->c):c:=J5 (n:=n) (g:=G.A4 o) t ?r h r λH I j b s p=>u H I j b s (p.trans (AE (λg=>some (V.int H,U g)) Wn))
def M5{c:Type}{F:c->V}{Q:List c}{q:Nat}(p:G.part=none)(h:So (q+1) o)(r:Q≠[]){b:Prop}(t:∀j I,j∈Q->So q I->Ae T3 (n+2) 101 [.ref 0,.lst (Q.map F)] (U (G.A4 o))=some (F j,U (G.A4 I))->b):b:=Zx (n:=n) (g:=G.A4 o) p ?r h r λv I a s j=>t v I a s (j.trans (AE (λg=>some (F v,U g)) Wn))
def UJ{y:Type}{F:y->V}{Q:List y}{b:ME}{p:PT}{N:MI}{r:List Nat}{u:List V}{a:Gd}{q m:Nat}(Ch:C2 P N e (U (G.A4 o))=some (u,a,U (G.A4 o)))(Y:∀x q o,So (q+1) o->∀{c:Prop},(∀j I A,BP p x (clear e r)=some A->j∈Q->So q I->AD P b A (U (G.A4 o))=some (F j,U (G.A4 I))->c)->c)(At:∀o,DY (U (G.A4 o)) a)(v:So (q+m) o)(B:u.length<=m)(Db:m<lim){c:Prop}(w:∀(z:List y)I,So q I->AD P (.comp b [.mk p N []] r) e (U (G.A4 o))=some (.lst (z.map F),U (G.A4 I))->z.length=u.length->(∀j∈z,j∈Q)->c):c:=by show draws (G:=G) (F:=F) (Q:=Q) (a:=a) (q:=q) (w:=λx f=>(BP p x (clear e r)).bind λe=>(I6 P [] e f).bind λ(t,f)=>match t with|true=>FY P (λe f=>AD P b e f) [] e e f|false=>some ([],f)) (λx q o h c w=>Y x q o h λj I A D H v E=>w j I H v (b1 D (b1 (a:=(true,U (G.A4 o))) ?r (m1 E rfl)))) At u o (v.le (EJ B _)) λz I h j C d=>w z I h (b1 (b1 Ch j) ?_) C d;dsimp only;show J (AG (J (Al _) (J C (Ai B Db)))) rfl
def gr{b:Bool}:OE b≠[]/\∀j∈OE b,Lh b j:=by cases b with|true=>show⟨Dt _ _,Bo.mpr ⟨rfl,Bo.mpr ⟨rfl,Bo.mpr ⟨rfl,HS.mpr rfl⟩⟩⟩⟩|false=>
  have:∀t∈nums,D0 1 2 t:=by unfold D0;decide
  show⟨Dt _ _,List.forall_mem_map.mpr λt a=>⟨rfl,this t a⟩⟩
def gi(b:0<=H)(c:H<5):∀t∈RL H,D0 3 5 t:=λt a=>by
 show mc a ?_ λa=>?_;·show⟨(by decide:-3<=0),(by decide:(0:Int)<=3),(by decide:-3<=0),(by decide:(0:Int)<=3),Aa b (by simp+arith),Aa c (by simp+arith)⟩
 ·have:∀t∈[(1,0,0),(0,1,0),(1,0,-1),(-1,0,2),(1,1,0)],D0 3 5 t:=by unfold D0;decide
  show this t a
def Vb{a:Type}{u:List a->Prop}(b:∀r,u [r])(j:∀r q,u [r,q])(c:List a)(h:c.length=1\/c.length=2):u c:=by cases c with|nil=>cases h<;>contradiction|cons r c=>cases c with|nil=>show b r|cons q c=>cases c with|nil=>show j r q|cons=>show h.elim (λh=>Nat.noConfusion (Ew h)) λh=>Nat.noConfusion (Ew (Ew h))
def RW(c:List (Int×Int))(h:c.length=1\/c.length=2):(∀r∈c,Ep r)->1<=Dz 1 c/\Dz 1 c<=9:=by
 have p:∀{r:Int×Int},Ep r->1<=r.2-r.1+1/\r.2-r.1+1<=3:=λh=>CW h λv v t u=>⟨Aa t (by simp+arith),Aa u (by simp+arith)⟩;show Vb (u:=λc=>(∀r∈c,Ep r)->1<=Dz 1 c/\Dz 1 c<=9) (λr a=>?_) (λr q a=>?_) c h;·have:=p (a r AR);show(?_:1<=1*(r.2-r.1+1)/\1*(r.2-r.1+1)<=9);rw[Int.one_mul];show⟨this.1,BE this.2 (by decide)⟩
 ·have b:=p (a r AR);have j:=p (a q (Ah _ AR));show(?_:1<=1*(r.2-r.1+1)*(q.2-q.1+1)/\1*(r.2-r.1+1)*(q.2-q.1+1)<=9);rw[Int.one_mul];show⟨Int.mul_le_mul b.1 j.1 (by decide) (BE (by decide) b.1),Int.mul_le_mul b.2 j.2 (BE (by decide) j.1) (by decide)⟩
def g9{w:Bool}{c:List (Int×Int)}(a:c.length=if w then 1 else 2)(b:∀r∈c,Ep r/\(w=false->r.2<=r.1+1)):1<=Dz 1 c/\Dz 1 c<=9:=RW c (by cases w;show .inr a;show .inl a) λr h=>(b r h).1
def j0{q:Nat}(v:g.part=none)(Do:Ax g g.next)(Sc:g.other 0=some o)(At:So (q+18) o){z:Prop}(y:∀w b c Q Ch I e,PL g w b c Q Ch e->So q I->(∀r,Ao (AN T3 (n+2)) (GL.body.drop 7) e (U (g.Bh I g.next (c.map Aw)))=some r->Ao (AN T3 (n+2)) GL.body (upd (λu=>none) 18 (.ref 0)) (U g)=some r)->z):z:=by
 have Y:=Do.1;show J5 (n:=n+1) (a:=2) v Sc At (by decide) λP Wp u u t1 No=>JA (n:=n+1) (a:=4) (G:=g) v t1 (by decide) λR o2 u u t2 Ok=>?_;let AC:Env:=upd (upd (upd (λu=>none) 18 (.ref 0)) 60 (.bool (P==0))) 61 (.bool (R==3));let N:Env:=upd (upd AC 62 (.ref g.next)) 19 (.int 1);generalize i:(P==0)=w;generalize Db:(R==3)=b;have T0:A8 (AN T3 (n+2)) (GL.body.getD 0 .fail) (upd (λu=>none) 18 (.ref 0)) (U g)=some (.next,AC,U (g.A4 o2)):=Az (CI (AL (Aq (BI (AL ?r ?r) No) ?r ?r) (AL (Aq (BI (AL ?r ?r) Ok) ?r ?r) ?r))) ?r;have UF:A8 (AN T3 (n+2)) (GL.body.getD 1 .fail) AC (U (g.A4 o2))=some (.next,N,U (g.Bh o2 g.next ([].map Aw))):=by show Mine.AU ((F3 (g:=g.A4 o2) Do).trans (AE U (Rk (Dd (AZ (Ay _ _) Y)))):(U (g.A4 o2)).new (.list [])=U (g.Bh o2 g.next [])) (Az ?r ?r)
 have Fs:∀{z:Prop},(∀c A H,A8 (AN T3 (n+2)) (GL.body.getD 2 .fail) N (U (g.Bh o2 g.next ([].map Aw)))=some (.next,A,U (g.Bh H g.next (c.map Aw)))->c.length=(if w then 1 else 2)->(∀r∈c,Ep r/\(w=false->r.2<=r.1+1))->So (q+12) H->A 19=some (.int (Dz 1 c))->(∀j,j≠25->j≠4->j≠19->A j=N j)->z)->z:=λ{z}y=>by have p:∀{e:Env}{a b M:V}{j:Nat},j≠25->j≠4->j≠19->upd (upd (upd e 25 a) 4 b) 19 M j=e j:=λD E h3=>(AF h3).trans ((AF E).trans (AF D));show XW (n:=n+1) (g:=g) (k:=g.next) (e:=N) (i:=0) (c:=[]) (w:=w) (a:=1) v Y t2 rfl (by decide) (by decide) ?r (Mine.AU i rfl) ?r ?r λr H t3 T F Ix=>?_;have FS:AD (AN T3 (n+2)) (.ite (.var 60) (.int 1) (.int 2)) N (U (g.Bh o2 g.next ([].map Aw)))=some (.int (if w then 1 else 2),U (g.Bh o2 g.next ([].map Aw))):=JE (AH (v:=.bool w) (Mine.AU i rfl)) ?r (by clear i F y;cases w<;>rfl);cases w with|true=>show y [r] _ H (Ea (Nq FS (by decide)) (Ko Ix ?r)) rfl (HS.mpr ⟨T,F⟩) (t3.le (A2 (q+12) 2)) ?r λj D E h3=>p D E h3|false=>show XW (n:=n+1) (g:=g) (k:=g.next) (e:=upd (upd (upd N 25 (.int (0:Nat))) 4 (.int r.1)) 19 (.int (1*(r.2-r.1+1)))) (i:=1) (c:=[r]) (w:=false) (a:=1*(r.2-r.1+1)) v Y t3 rfl (by decide) (by(show CW T λu u M s=>?_);show L' (Aa M (by simp+arith)) (Aa s (by simp+arith))) ?r (Mine.AU i rfl) ?r ?r λTl Gc t4 Uf WF WP=>?_;show y [r,Tl] _ Gc (Ea (Nq FS (by decide)) (Ko Ix (Ko WP ?r))) rfl (Bo.mpr ⟨⟨T,F⟩,HS.mpr ⟨Uf,WF⟩⟩) t4 ?r λj D E h3=>(p D E h3).trans (p D E h3)
 show Fs λc A H s2 K JP UV On p=>?_;clear Fs;show AV (g9 K JP) λGo H1=>?_;have IN:((Dz 1 c).toNat:Int)=Dz 1 c:=Int.toNat_of_nonneg (BE (by decide) Go);have Rs:(Dz 1 c).toNat<=9:=Jr.mp (BE (Cy IN) H1);have L:A 18=some (.ref 0):=(p 18 (by decide) (by decide) (by decide)).trans ?r;have O:A 61=some (.bool b):=(p 61 (by decide) (by decide) (by decide)).trans (Mine.AU Db rfl);have Z:A 62=some (.ref g.next):=(p 62 (by decide) (by decide) (by decide)).trans ?r;let G:GS:=g.Bh .BJ g.next (c.map Aw);have C:∀o,G.A4 o=g.Bh o g.next (c.map Aw):=λo=>MR;let l:Env:=upd A 7 (.lst (nums.map t3));have FM:(Ia 0 (Dz 1 c)).length=(Dz 1 c).toNat:=by unfold Ia;(rewrite[Al];show J List.length_range ?_;rewrite[Int.sub_zero];rfl)
 show AV (gr (b:=b)) λEQ Ev=>?_;have TW:∀(e:Env)(f:St),e 61=some (.bool b)->e 7=some (.lst (nums.map t3))->AD (AN T3 (n+2)) (.ite (.var 61) (.lst [.bool true,.bool false,.str "b",.str "not b"]) (.var 7)) e f=some (.lst ((OE b).map El.toV),f):=λe f h Op=>JE (AH h) ?r (by clear Db O EQ Ev h;cases b with|true=>rfl|false=>show AH (P:=AN T3 (n+2)) Op);show UJ (P:=AN T3 (n+2)) (e:=l) (G:=G) (b:=.call 101 [.var 18,.ite (.var 61) (.lst [.bool true,.bool false,.str "b",.str "not b"]) (.var 7)]) (p:=.nm 25) (N:=.DL (.var 19)) (r:=[25,115]) (F:=El.toV) (Q:=OE b) (m:=9) (a:=none) (Nq (AH On) ⟨Fo (by decide) Go,HQ H1 (by decide)⟩) (λx q o h z y=>M5 (n:=n) (G:=G) v h EQ λB I d At k=>y B I _ ?r d At (BI (AL (AH (show upd (clear l [25,115]) 25 x 18=_ from L)) (AL (TW _ _ O ?r) ?r)) k)) (λu=>trivial) UV (J FM Rs) (by decide) λQ Gc t4 S Fa Ps=>?_;rw[FM]at Fa;rw[C,C]at S;show JA (n:=n+1) (a:=5) (G:=G) v t4 (by decide) λs W1 M2 NE t5 W=>?_;let m:Env:=upd (upd l 20 (.lst (Q.map El.toV))) 26 (.lst ((RL s).map t3));show UJ (P:=AN T3 (n+2)) (e:=m) (G:=G) (b:=.call 101 [.var 18,.var 26]) (p:=.nm 12) (N:=.val (.var 62)) (r:=[12,115]) (u:=c.map Aw) (F:=t3) (Q:=RL s) (m:=2) (a:=some (g.next,.list (c.map Aw))) (by rw[C];show F2 (AH (show m 62=_ from Z)) (Kk v Y)) (λx q o h z y=>M5 (n:=n) (G:=G) v h (Dt _ _) λB I d At k=>y B I _ ?r d At (BI (AL (AH (show upd (clear m [12,115]) 12 x 18=_ from L)) (AL ?r ?r)) k)) (λu=>by rw[C];show Kk v Y) t5 (by rw[Al,K];split<;>decide) (by decide) λCh Tk t6 X Fk Re=>?_;rw[Al]at Fk;rw[C,C]at W X;show y w b c Q Ch Tk (upd m 27 (.lst (Ch.map t3))) ⟨L,(p 60 (by decide) (by decide) (by decide)).trans (Mine.AU i rfl),O,Z,by rfl,by rfl,by rfl,K,JP,(AE Nat.cast Fa).trans IN,λB d=>Ev B (Ps B d),Fk,λt TE=>gi M2 NE t (Re t TE)⟩ t6 λr p=>?_;show AI T0<|AI UF<|AI s2<|AI (AC:=l) (T:=U (g.Bh H g.next (c.map Aw))) ?r<|AI (Az S ?r)<|AI (AC:=m) (Az (KD (AL (CI (AL ?r (AL ?r (AL (BA (BI (AL (AH (show upd l 20 (.lst (Q.map El.toV)) 18=_ from L)) ?r) W) ?r ?r) ?r)))) ?r)) ?r)<|AI (Az X ?r) p
end
end
section
mutual
open A
variable{n O M y m k j:Nat}{g L v G:GS}{f T p i:St}{P:Pg}{e AC:Env}{o I H l:A'}{z:List Int}{s:Int}{ep:Nat}{R:List V}
def er(b:Ax G j)(a:j≠0):(U ((G.lay j H).A4 o)).objs j=some H:=J (N0 a) (Gh b)
def et(b:Ax G j)(a:j≠0):(U ((G.lay j H).A4 o)).set j l=U ((G.lay j l).A4 o):=J (N0 a) (J (N0 a) (L1 b))
def Le(h:Hh P c e f=some (a,T)):AD P (.FA c) e f=some (.ref T.next,T.new (.dict (HC a) 0)):=m1 h rfl
def HD(c:AD P a e f=some (x,T))(h:Ht x=some q)(d:AD P b e T=some (A,p))(t:Hh P r e p=some (u,i)):Hh P (a::b::r) e f=some ((q,A)::u,i):=b1 c (b1 h (b1 d (m1 t rfl)))
def Rb(h:JZ P d u e f=some r):Gl P (.tup d) (.tup u) e f=some r:=h
def Kl(h:Gl P t x e f=some (AC,T))(a:JZ P d u AC T=some r):JZ P (t::d) (x::u) e f=some r:=b1 h a
def iU:OP f none (some 4) (.lst (nums.map t3))=some (.lst ((nums.take 4).map t3)):=by kernel_rfl
def l2{d:Type}{c:List d}(h:c.length=2):∃a b,c=[a,b]:=Vb (u:=λc=>c.length=2->∃a b,c=[a,b]) (λr h=>Nat.noConfusion (Ew h)) (λr q t=>⟨r,q,rfl⟩) c (.inr h) h
def j1{w b:Bool}{c:List (Int×Int)}{At:List El}{A:List (Int×Int×Int)}{q:Nat}(h:PL g w b c At A e)(u:g.part=none)(Do:6<=g.next)(Ch:So (q+2) o){N:Prop}(B:∀EQ o2 Db,So q o2->A8 (AN T3 (n+2)) (GL.body.getD 7 .fail) e (U (g.Bh o g.next (c.map Aw)))=some (.next,Db,U (g.Bh o2 g.next (c.map Aw)))->PL g w b c At EQ Db->N):N:=by cases w with|true=>show B A o e (Ch.le (A2 q 2)) (Bq (KC (I7 (Gf (AH h.QQ) ?r) ?r)) ?r ?r) h|false=>have r:∀o,(g.Bh .BJ g.next (c.map Aw)).A4 o=g.Bh o g.next (c.map Aw):=λo=>MR;show JA (n:=n+1) (a:=2) (G:=g.Bh .BJ g.next (c.map Aw)) u Ch (by decide) λH C y y t1 Q=>?_;rw[r,r]at Q;have t:AD (AN T3 (n+2)) (.and [.not (.var 60),.cmp .eq (.call 100 [.var 18,.int 2]) (.int 0)]) e (U (g.Bh o g.next (c.map Aw)))=some (.bool (H==0),U (g.Bh C g.next (c.map Aw))):=KC (J0 (Gf (AH h.QQ) ?r) ?r (and_1 (Aq (BI (AL (AH h.IJ) ?r) Q) ?r ?r)));cases i:H==0 with|false=>show B A C e (t1.le (A1 _)) (Bq (i▸t) ?r ?r) h|true=>replace t:=i▸t;show JA (n:=n+1) (a:=7) (G:=g.Bh .BJ g.next (c.map Aw)) u t1 (by decide) λd o2 s v t2 Y=>?_;rw[r,r]at Y;show Eb (l2 h.rn) λD a z=>?_;subst z;have k:=h.rb a (Ah _ AR);have j:=λo=>Kk (o:=o) (R:=[D,a].map Aw) u Do;have m:∀{f:St}{e:Env}(l:f.objs g.next=some (.list ([D,a].map Aw))),e 62=some (.ref g.next)->AD (AN T3 (n+2)) (.idx (.var 62) (.int 1)) e f=some (Aw a,f):=λl h=>BM (AH h) ?r (Lr (x:=1) l ?r);let p:Int:=a.2-a.1+1;let E:Env:=upd e 63 (.int p);let x:List (Int×Int×Int):=[(1,0,0),(0-p,0,d-1)];show B x o2 (upd E 27 (.lst (x.map t3))) t2 (BS t ?r (AI (AC:=E) (T:=U (g.Bh C g.next ([D,a].map Aw))) (Az (BA (BA (BM (m (j _) h.Nm) ?r (Gg (x:=1) ?r)) (BM (m (j _) h.Nm) ?r (Gg (x:=0) ?r)) ?r) ?r ?r) ?r) (AI (Az (v:=.lst (x.map t3)) (KD (AL ?r (AL (CI (AL (BA ?r (AH ?r) ?r) (AL ?r (AL (BA (BI (AL (AH (show E 18=_ from h.IJ)) ?r) Y) ?r ?r) ?r)))) ?r))) ?r) ?r))) ⟨h.IJ,h.QQ,h.U8,h.Nm,h.h7,h.Nl,by rfl,h.rn,h.rb,h.sl,h.sb,by rfl,Bo.mpr ⟨by unfold D0;decide,HS.mpr ⟨(Aa (k.2 rfl) (by simp+arith):-3<=0-(a.2-a.1+1)),(Aa k.1.2.2.1 (by simp+arith):0-(a.2-a.1+1)<=3),(by decide:(-3:Int)<=0),(by decide:(0:Int)<=3),(Int.sub_le_sub_right (BE (by decide:(-4:Int)<=0) s) 1:-4-1<=d-1),(Int.sub_le_sub_right (Mo v:d<=6) 1:d-1<=6-1)⟩⟩⟩
def TS{q:Nat}(c:g.part=none)(At:Ax g g.next)(Ev:g.other 0=some o)(Gc:So (q+25) o){Y:Prop}(Go:∀B I R,EK B->So q I->Ae T3 (n+3) 104 [.ref 0] (U g)=some (.ref (g.next+1),U (((g.Bh .BJ g.next R).lay (g.next+1) (EY B)).A4 I))->Y):Y:=by
 have D:=At.1;show j0 (n:=n) c At Ev Gc λDb b u k JP M2 AC v t1 Fs=>j1 (n:=n) v c D t1 λy o2 M t2 S h=>?_;let G:GS:=g.Bh .BJ g.next (u.map Aw);have N:Ax G (g.next+1):=En c (AQ D (A1 _));have E:g.next+1≠0:=Jy _;let d:List (SK×V):=[(txt "bits",.bool b),(txt "ranges",.tup (u.map Aw)),(txt "some",.lst (k.map El.toV)),(txt "indexes",.lst (y.map t3))];let a:Env:=upd M 28 (.ref (g.next+1));have FM:=Kk (g:=g) (k:=g.next) (o:=o2) (R:=u.map Aw) c D;have W:A8 (AN T3 (n+2)) (GL.body.getD 8 .fail) M (U (g.Bh o2 g.next (u.map Aw)))=some (.next,a,U ((G.lay (g.next+1) (.dict d 0)).A4 o2)):=by
  have EQ:(U (g.Bh o2 g.next (u.map Aw))).new (.dict d 0)=U ((G.lay (g.next+1) (.dict d 0)).A4 o2):=by show J (N0 E) ?_;rewrite[λo=>MR];show F3 (g:=g.Bh o2 g.next (u.map Aw)) N
  show Mine.AU EQ (Az (Le (HD (q:=txt "bits") ?r ?r (AH h.U8) (HD (q:=txt "ranges") ?r ?r (Bk (AL (AH h.Nm) ?r) (Ma FM)) (HD (q:=txt "some") ?r ?r (AH h.Nl) (HD (q:=txt "indexes") ?r ?r (AH h.QO) ?r))))) ?r)
 show M5 (n:=n) (G:=G.lay (g.next+1) (.dict d 0)) (Q:=[Sg.le,.eq,.ne]) (F:=Sg.toV) c t2 (Dt _ _) λL NE A IN X=>M5 (n:=n) (G:=G.lay (g.next+1) (.dict d 0)) (Q:=nums.take 4) (F:=t3) c IN (Dt _ _) λQ z FS t4 O=>?_;let l:=d++[(txt "sign",L.toV)];let w:=l++[(txt "other",t3 Q)];have s:∀{f:St},AD (AN T3 (n+2)) (.var 28) a f=some (.ref (g.next+1),f):=AH ?r;have st:∀(x:List (SK×V))(ep:Nat)(o:A')(q:String)(C:V),x.length<lim->DZ x (txt q) C=x++[(txt q,C)]->Gl (AN T3 (n+2)) (.sub (.var 28) (.str (Str.ofString q))) C a (U ((G.lay (g.next+1) (.dict x ep)).A4 o))=some (a,U ((G.lay (g.next+1) (.dict (x++[(txt q,C)]) (ep+1))).A4 o)):=λx ep o q C Do Fa=>by show Kg s ?r ((Wq (er N E) Do).trans (J (et N E) (AE (λH1=>some (U ((G.lay (g.next+1) (.dict H1 (ep+1))).A4 o))) Fa)))
 have Z:A8 (AN T3 (n+2)) (GL.body.getD 9 .fail) a (U ((G.lay (g.next+1) (.dict d 0)).A4 o2))=some (.next,a,U ((G.lay (g.next+1) (.dict w 2)).A4 z)):=Az (CI (AL (BI (AL (AH (show a 18=_ from h.IJ)) ?r) X) (AL (BI (AL (AH (show a 18=_ from h.IJ)) (AL (b1 (AH (show a 7=_ from h.h7)) (b1 ?r (b1 ?r (Mine.m1 iU ?r)))) ?r)) O) ?r))) (Rb (Kl (st d 0 _ "sign" _ (by show(?_:4<lim);decide) ?r) (Kl (st l 1 _ "other" _ (by show(?_:5<lim);decide) ?r) ?r)));show JA (n:=n+1) (a:=3) (G:=G.lay (g.next+1) (.dict w 2)) c t4 (by decide) λe No A A t5 F=>JA (n:=n+1) (a:=2) (G:=G.lay (g.next+1) (.dict w 2)) c t5 (by decide) λi Ok A A t6 K=>JA (n:=n+1) (a:=4) (G:=G.lay (g.next+1) (.dict w 2)) c t6 (by decide) λj H A A Ix P=>?_;let m:=w++[(txt "top",.bool (e==0))];let p:=m++[(txt "want",.bool (i==0))];let Ch:=p++[(txt "beside",.bool (j==3))];have T:A8 (AN T3 (n+2)) (GL.body.getD 10 .fail) a (U ((G.lay (g.next+1) (.dict w 2)).A4 z))=some (.next,a,U ((G.lay (g.next+1) (.dict Ch 5)).A4 H)):=Az (CI (AL (Aq (BI (AL (AH (show a 18=_ from h.IJ)) ?r) F) ?r ?r) (AL (Aq (BI (AL (AH (show a 18=_ from h.IJ)) ?r) K) ?r ?r) (AL (Aq (BI (AL (AH (show a 18=_ from h.IJ)) ?r) P) ?r ?r) ?r)))) (Rb (Kl (st w 2 _ "top" _ (by show(?_:6<lim);decide) ?r) (Kl (st m 3 _ "want" _ (by show(?_:7<lim);decide) ?r) (Kl (st p 4 _ "beside" _ (by show(?_:8<lim);decide) ?r) ?r))));have:=F0 (B:=T3) (n:=n+2) (w:=104) (D:=[.ref 0]) ?r ?r (Fs _ (AI S (AI W (AI Z (AI T (Ap (BL s)))))));show Go ⟨b,u,k,y,L,Q,e==0,i==0,j==3⟩ H (u.map Aw) ⟨by rw[h.rn];clear h v;cases Db;show .inr rfl;show .inl rfl,λr Fk=>(h.rb r Fk).1,h.sl,h.sb,h.il,h.ib,by
  have:∀t∈nums.take 4,D0 1 2 t:=by unfold D0;decide
  show this Q FS⟩ Ix this
end
end
mutual
open A
noncomputable def Ik(x:Nat):Val:=.sum [(x,1)] 0
def B7(t:Int×Int×Int):Val:=Bl (Bl (.int t.2.2) (Ik 0) t.1) (Ik 1) t.2.1
noncomputable def worth(t h:Int×Int×Int):Int:=t.1*h.1+t.2.1*h.2.1+t.2.2
def E5:List ((Int×Int)×Int×Int×Int)->Int×Int×Int->Int->Option Int|[],_,p=>some p|(r,t)::q,h,p=>if decide (r.1<=worth t h)&&decide (worth t h<=r.2)then E5 q h (p*(r.2-r.1+1)+worth t h-r.1)else none
noncomputable def ON(s:Sg)(a c:Int):Bool:=match s with|.le=>decide (a<=c)|.eq=>a==c|.ne=>! a==c 
def Lf(B:Ca)(h:Int×Int×Int):El->Bool|.num t=>ON B.sign (worth t h) (worth B.other h)|.F' t=>t|.b=>h.2.2==1|.nb=>h.2.2==0
def F1(B:Ca)(h:Int×Int×Int):Bool:=match E5 (B.DM.zip B.indexes) h 0 with|none=>!B.top&&(!B.want||B.C'&&h.2.2==1)|some p=>Lf B h (B.some.getD p.toNat .b)==B.want||B.C'&&h.2.2==1 
end
section
mutual
open A
variable{n O M l m k j:Nat}{g L b G:GS}{f T A r:St}{P:Pg}{e AC:Env}{o I H y:A'}{z:List Int}{s:Int}{ep:Nat}{R:List V}
def Wy(h:D0 D C t)(d:D<=1000)(v:C<=1000){i:Prop}(q:t.1.natAbs<=1000000->t.2.1.natAbs<=1000000->i):i:=Kx h λa p c H u u=>q (L' (Aa a (Aa d (by simp+arith))) (Aa p (Aa d (by simp+arith)))) (L' (Aa c (Aa d (by simp+arith))) (Aa H (Aa d (by simp+arith))))
def gC(t:_×Int×_):(keys (Bl (.int t.2.2) (Ik 0) t.1).ps).Nodup/\(Bl (.int t.2.2) (Ik 0) t.1).ps.length<=1:=by have a:=Nb t.1 [(0,1)] [] G1;have o:=RD a.1;show J (Q8 _ _) ⟨o.2.2.1,AQ o.2.2.2.2.2 a.2.2.1⟩ 
def Pk(h:D0 D C t)(d:D<=1000)(i:C<=1000):Ae T3 (n+4) 102 [t3 t,.int (0:Nat),.int (1:Nat)] f=some ((B7 t).toV,f.bump.bump):=by show Wy h d i λc s2=>AV (gC t) λp q=>F0 ?r ?r (Ap (BL (BI (AL (BI rfl (Pn (.int t.2.2) (Ik 0) _ G1 (by show(?_:0+1<64);decide) (λa a=>C4 c) (C4 c))) rfl) (Pn _ (Ik 1) _ p (lf q (by simp+arith):_+1<64) (λa a=>C4 s2) (C4 s2)))))
def Pr(d:D0 D C t)(a:D<=1000)(c:C<=1000):Ae T3 (n+1) 103 [t3 t,t3 h] f=some (.int (worth t h),f):=Wy d a c λi s2=>F0 ?r ?r (Ap (BL (BA (BA (BA ?r ?r (F6 (C4 i))) (BA ?r ?r (F6 (C4 s2))) ?r) ?r ?r)))
structure Fy(u:Ca)(h:Int×Int×Int)(k:Nat)(σ:St)(ρ:Env):Prop where
 ob:σ.objs k=some (EY u)
 JI:ρ 28=some (.ref k)
 QN:ρ 24=some (t3 h)
def Fy.get(a:Fy B h k f e)(c:DA (R2 B) (txt q)=some v):AD P (.idx (.var 28) (.str (Str.ofString q))) e f=some (v,f):=BM (AH a.JI) ?r (KR a.ob c)
def Fy.here(a:Fy B h k f e)(i):AD P (.cmp .eq (.idx (.var 24) (.int 2)) (.int i)) e f=some (.bool (h.2.2==i),f):=Aq (BM (AH a.QN) ?r rfl) ?r ?r
def Fy.C'(a:Fy B h k f e):AD P (.and [.idx (.var 28) (.str "beside"),.cmp .eq (.idx (.var 24) (.int 2)) (.int 1)]) e f=some (.bool (B.C'&&h.2.2==1),f):=IF (a.get ?r) (a.here 1)
def bY{h}{a:Gd}(At:DY f a)(Ch:f.objs k=some (EY B)):∀(i)(p)(e),e 28=some (.ref k)->e 24=some (t3 h)->e 32=some (.int p)->(∀E∈i,Ep E.1/\D0 3 5 E.2)->∃w,Cw (λx e f=>(BP (.tup [.tup [.nm 4,.nm 5],.nm 21]) x e).bind λe=>Ao (AN T3 (n+1)) (ES K8 1) e f) a (i.map λE=>V.tup [Aw E.1,t3 E.2]) e f=some (match E5 i h p with|none=>.ret (.bool (!B.top&&(!B.want||B.C'&&h.2.2==1)))|some _=>.next,w,f)/\w 28=some (.ref k)/\w 24=some (t3 h)/\∀q,E5 i h p=some q->w 32=some (.int q):=by intro i;induction i with|nil=>intro p e N u b Q;show⟨e,rfl,N,u,λq D=>AP D▸b⟩|cons Q i o=>obtain⟨d,t⟩:=Q;intro p e N u b l;show AV (l _ AR) λy z=>?_;let C:=upd (upd (upd (upd e 4 (.int d.1)) 5 (.int d.2)) 21 (t3 t)) 55 (.int (worth t h));have Y:Fy B h k f C:=⟨Ch,N,u⟩;have m:∀{q},_->((BP (.tup [.tup [.nm 4,.nm 5],.nm 21]) (V.tup [Aw d,_]) e).bind λe=>Ao (AN T3 (n+1)) (ES K8 1) e f)=some q:=λs=>b1 (a:=upd (upd (upd e 4 _) 5 _) 21 _) ?r (AI (AC:=C) (Az (BI (AL rfl (AL (AH u) ?r)) (Pr z (by decide) (by decide))) ?r) s);have v:AD (AN T3 (n+1)) (.not (.chain (.var 4) .le (.var 55) .le (.var 5))) C f=_:=Gf (NO rfl rfl ?r rfl ?r) ?r;have D:E5 ((d,t)::i) h p=if _ then _ else _:=rfl;show J D ?_;cases g:_&&_ with|false=>replace v:=g▸v;show⟨C,b1 (m (Ap (BS v ?r (Ap (BL (IF (Gf (Y.get ?r) ?r) (IH (Gf (Y.get ?r) ?r) Y.C'))))))) ?r,N,u,λq D=>AS D⟩|true=>
   replace v:=g▸v;show H0 (o (p*(d.2-d.1+1)+worth t h-d.1) (upd C 32 _) N u ?r λE A=>l E (Ah _ A)) λw r I G L=>?_;have j:(d.2-d.1+1).natAbs<=1000000:=by(show CW y λQ Q c H=>?_;(skip));dsimp only at c H;show L' (Aa c (by simp+arith)) (Aa H (by simp+arith))
   show⟨w,b1 (m (AI (AC:=C) (Bq v ?r ?r) (AI (Az (BA (BA (BA (AH b) rfl (F6 (IntMulOk.of_right (intBits_le_64 (Fo (Co _) (Vv j)) (HQ (Vw j) (Co _)))))) rfl ?r) rfl ?r) ?r) ?r))) (by dsimp only;show J (AG At) ?_;show r),I,G,L⟩
def Xg{a c:Type}(w:a->V)(g:c->V)(u:List a):∀ys:List c,Es (u.map w) (ys.map g)=(u.zip ys).map λE=>V.tup [w E.1,g E.2]:=by induction u with|nil=>showλys=>by cases ys<;>rfl|cons x u d=>showλys=>by cases ys with|nil=>rfl|cons h ys=>show AE (_::·) (d ys)
def kf(c:List (Int×Int))(d:List (Int×Int×Int)):Es (c.map Aw) (d.map t3)=(c.zip d).map λE=>V.tup [Aw E.1,t3 E.2]:=Xg ..
end
end
section
mutual
open A
variable{n O M d m k j:Nat}{g L c G:GS}{f T t i:St}{P:Pg}{e AC:Env}{o I H l:A'}{r:List Int}{s:Int}{ep:Nat}{R:List V}
def ba:∀(u)(p a q),E5 u h p=some q->0<=p->p<a->(∀E∈u,Ep E.1)->0<=q/\q<Dz a (u.map λE=>E.1):=by intro u;induction u with|nil=>intro p a q b C D Y;show Mine.AU (AP b) ⟨C,D⟩|cons Y u c=>obtain⟨B,f⟩:=Y;intro p a q b C D d;change(if _ then _ else _)=_ at b;cases N:_&&_ with|false=>rw[N]at b;show AS b|true=>
   rw[N]at b;show AV ((Ct _ _).mp N) λv z=>?_;have v:=A9 v;have z:=A9 z;generalize _=w at b v z;have Q:0<=B.2-B.1+1:=Aa z (Aa v (by simp+arith));have m1:=Int.mul_nonneg C Q;have A:=Int.mul_le_mul_of_nonneg_right (show p<=a-1 by show Aa D (by simp+arith)) Q;rw[Int.sub_mul]at A;show c _ (a*(B.2-B.1+1)) q b ?_ ?_ λE e=>d E (Ah _ e);·generalize _=x at m1 A⊢;show Aa m1 (Aa v (by simp+arith))
   ·generalize p*_=x at m1 A⊢;generalize _=y at A⊢;show Aa A (Aa z (by simp+arith)) 
def SU{a b:Type}{u:List a}{ys:List b}(h:u.length=ys.length):(u.zip ys).map (λE=>E.1)=u:=List.map_fst_zip (AY h)
def EK.zs(b:EK B):∀E∈B.DM.zip B.indexes,Ep E.1/\D0 3 5 E.2:=λE a=>⟨b.rb _ (HT a).1,b.ib _ (HT a).2⟩
def B1(h:k≠f.next):(f.new o).objs k=f.objs k:=AF h
def RP(f:St)(o I:A'):f.pop ((f.new o).new I)=⟨f.objs,f.next+2⟩:=by
 delta St.pop St.new;congr 1;funext m;dsimp only;by_cases h:m<f.next;·show J (AG h) (J (AF (Av (AZ h (A1 _)))) (J (AF (Av h)) rfl))
 ·show J (AF h) rfl
def Z3(A:EK B)(Ch:f.objs k=some (EY B))(At:k<f.next):∃q,f.next<=q/\Ae T3 (n+2) 106 [.ref k,t3 h] f=some (.bool (F1 B h),⟨f.objs,q⟩):=by
 let X:=upd (upd (λZ=>none) 24 (t3 h)) 28 (.ref k);let AC:=upd X 32 (.int 0);let a:St:=f.new .BJ;have y:a.objs k=_:=(B1 (Av At)).trans Ch;show H0 (bY (n:=n) (f:=a) (a:=some (_,.BJ)) (Hq f .BJ) y _ 0 AC ?r ?r ?r A.zs) λr T N E j=>?_;have t:Fy B h k f AC:=⟨Ch,by rfl,by rfl⟩;have Q:A8 (AN T3 (n+1)) (K8.body.getD 1 .fail) AC f=some (match E5 (B.DM.zip B.indexes) h 0 with|none=>.ret (.bool (!B.top&&(!B.want||B.C'&&h.2.2==1)))|some _=>.next,r,a):=by show Ea (VB (t.get ?r) (t.get ?r) ?r ?r) ?_;rw[kf];show T
 unfold F1;cases d:E5 _ h 0 with|none=>replace Q:=d▸Q;show⟨_,A1 _,?_⟩;have:=DR (w:=106) (D:=[_,t3 h]) ?r ?r (AI ?r (Ap Q));show J this ?_;rewrite[ML];rfl|some p=>
  rw[d]at Q;have j:=j p d;show AV (ba _ 0 1 p d (BB _) (by decide) λz S=>(A.zs z S).1) λV I=>?_;rw[SU A.il.symm,<-A.sl]at I;show Ac (O6 V) λx W=>?_;obtain rfl:=W;have l:x<B.some.length:=cnt (Aa I (by simp+arith));have H:(B.some.map El.toV)[x]?=some (B.some[x]).toV:=by(show J D7 ?_;show J (Cz l) ?_);rfl
  have u:=A.sb _ (LA l);show(?_:∃q,_/\Ae T3 _ 106 _ f=some (.bool (_||_),_));show J (by(show J G0 ?_;show J (Cz l) ?_);rfl:B.some.getD (x:Int).toNat .b=B.some[x]) ?_;have M:Fy B h k a r:=⟨y,N,E⟩;generalize B.some[x]=i at H u;let C:=upd r 12 i.toV;have w:Fy B h k a C:=⟨y,N,E⟩;have G:∀(g:St)(v:Env)(L:Bool)(q:Nat),A8 (AN T3 (n+1)) (K8.body.getD 3 .fail) C a=some (.next,v,g)->Fy B h k g v->v 64=some (.bool L)->f.pop g=⟨f.objs,q⟩->Ae T3 (n+2) 106 [.ref k,t3 h] f=_:=λg v L q F s P R=>by have:=DR (w:=106) (D:=[_,t3 h]) ?r ?r (AI ?r (AI Q (AI (Az (BM (M.get ?r) (AH j) (KQ H)) ?r) (AI F (Ap (BL (IH (Aq (AH P) (s.get ?r) ?r) s.C')))))));show J this (J R rfl)
  cases c:B.bits with
  |true=>rw[c]at u;let D:A':=.dict [(txt "b",.bool (h.2.2==1)),(txt "not b",.bool (h.2.2==0))] 0;have e:=Hq a D;have K:AD (AN T3 (n+1)) (.FA [.str "b",.cmp .eq (.idx (.var 24) (.int 2)) (.int 1),.str "not b",.cmp .eq (.idx (.var 24) (.int 2)) (.int 0)]) C a=some (.ref a.next,a.new D):=Le (HD (x:=.str "b") (T:=a) ?r ?r (w.here 1) (HD (x:=.str "not b") (T:=a) ?r ?r (w.here 0) ?r):Hh (AN T3 (n+1)) [.str "b",.cmp .eq (.idx (.var 24) (.int 2)) (.int 1),.str "not b",.cmp .eq (.idx (.var 24) (.int 2)) (.int 0)] C a=some ([(txt "b",.bool (h.2.2==1)),(txt "not b",.bool (h.2.2==0))],a));show⟨_,A2 _ _,G (a.new D) (upd C 64 _) _ _ (BS (w.get (v:=.bool true) (Mine.AU c rfl)) ?r (AI (Az (G' K (RV e) rfl ?_) ?r) ?r)) ⟨(B1 (show _ by show Av (AZ At (A1 _)))).trans y,N,E⟩ ?r (RP _ _ _)⟩;cases i with|num Y=>cases u.1|F' Y=>cases Y<;>show(b1 (La e) rfl:_)|b=>show Nj e|nb=>show Nj e
  |false=>replace u:=c▸u;cases i with|F' Y=>show AX u|b=>show AX u|nb=>show AX u|num Y=>let v:=upd (upd C 17 (.int (worth Y h))) 69 (.int (worth B.other h));have O:Fy B h k a v:=⟨y,N,E⟩;show⟨_,A1 _,G a (upd v 64 _) (ON _ _ _) _ (Bq (w.get (v:=.bool false) (Mine.AU c rfl)) ?r (AI (AC:=v) (Az (CI (AL (BI (AL (AH ?r) (AL (AH w.QN) ?r)) (Pr u.2 (by decide) (by decide))) (AL (BI (AL (w.get ?r) (AL (AH w.QN) ?r)) (Pr A.ob (by decide) (by decide))) ?r))) ?r) (AI (Az ?_ ?r) ?r))) ⟨y,N,E⟩ ?r (ML _ _)⟩;have o:∀q:String,AD (AN T3 (n+1)) (.idx _ (.str "sign")) v a=some (B.sign.toV,a):=λq=>O.get ?r;cases m:B.sign with|le=>have:=o "";rw[m]at this;show E6 (x:=.bool true) (Aq this ?r ?r) ?r rfl|eq=>have:=o "";rw[m]at this;show Fz (x:=.bool false) (Aq this ?r ?r) ?r (Aq rfl (Aq (t:=true) this ?r ?r) (by show(?_:some _=_);rw[beq_true];rfl))|ne=>have:=o "";rw[m]at this;show Fz (x:=.bool false) (Aq this ?r ?r) ?r (Aq rfl (Aq (t:=false) this ?r ?r) (by show(?_:some _=_);rw[beq_false];rfl))
end
end
mutual
open A
def FW:El->Val|.num t=>B7 t|.F' t=>.bool t|.b=>.bit 2 true|.nb=>.bit 2 false
def CC(B:Ca):Zs:=(B.DM.zip B.indexes).map λz=>(z.1,B7 z.2)
def CL(B:Ca):List Val:=B.some.map FW
end
section
mutual
open A
variable{n O M z m k y:Nat}{g L u G:GS}{f T D A:St}{P:Pg}{e AC:Env}{o I H B:A'}{C:List Int}{s:Int}{ep:Nat}{R:List V}{q:Zs}{c:List Val}
def CM.cr{s:Sg}(h:CM g s a b v L):CM (cr g) s a b v (cr L):=by cases s with|le=>show RT.cr h|eq=>show RT.cr h|ne=>show h.imp λi d=>⟨d.1.cr,d.2⟩
def aw{j:Type}{F E}:∀(d:List j)(m),(∀x∈d,∀m,w (F x) (U (G.at m))=some ([E x],U (G.at (m+2))))->Dr w none (d.map F) (U (G.at m))=some (d.map E,U (G.at (m+2*d.length))):=by intro d;induction d with|nil=>intro m l;show rfl|cons x d a=>intro m h;have:=a (m+2) λi b=>h i (Ah _ b);rw[(J B9 (Mv _ _ _):_+2*_=m+2*(x::d).length)]at this;show b1 (h x AR m) (by dsimp only;show J (AG (by trivial)) ?_;show m1 this rfl)
def UI{w:Type}{d:List w}{F E}(l:C2 P N e (U (G.at m))=some (d.map F,none,U (G.at m)))(step:∀x∈d,∃a,BP p (F x) (clear e r)=some a/\∀m,AD P b a (U (G.at m))=some (E x,U (G.at (m+2))))(t:d.length<lim):AD P (.comp b [.mk p N []] r) e (U (G.at m))=some (.lst (d.map E),U (G.at (m+2*d.length))):=by have h:FY P _ [.mk p N []] _ e _=_:=b1 l (aw d m λx v m=>by show AJ (step x v) λa i j=>b1 i (m1 (j m) rfl));show b1 h ?_;dsimp only;(show J (AG (by rw[Al];show t)) ?_;rfl)
noncomputable def fO(v:V):A':=.inst 2 [(7,.ref 2),(8,.ref 5),(0,v)]
def WO(b:g.part=none):(U g).set 1 (fO .none)=U g:=by
 delta U St.set;congr 1;funext i;by_cases a:i=1;·show J (AG a) (J a (?_:_=some _));show J b rfl
 ·show J (AF a) rfl
def gW(b:g.part=none)(a:Ax g g.next):((U g).new (.list [])).set 1 (fO (.ref g.next))=U {g with part:=some (g.next,[]),next:=g.next+1}:=J (F3 a) (Ij (g:=g.lay g.next (.list [])) rfl (λi d=>WN b) (.inl rfl))
def gX{a:Nat}{l:List V}(b:g.part=some (a,l)):(U g).set 1 (fO .none)=U {g with part:=none,other:=λi=>if i=a then some (.list l)else g.other i}:=Ij rfl (λi d=>OC b) (.inl rfl)
def OL(h:AD P j e f=some (.ref 1,f))(a:∃w,f.objs 1=some (fO w))(b:f.set 1 (fO v)=d):Gl P (.attr j 0) v e f=some (e,d):=by show Ac a λw a=>b▸b1 h (b1 rfl (b1 (Lq a) rfl))
def CO.S7(h:CO g i c v L)(a:∀w∈c,Aj w=true):Aj v=true:=by show AJ h λj b d=>?_;(try clear h);obtain rfl:=b;show J (AG (DD.mpr a)) ?_;rfl
def IY(d:c≠[]):pick i c∈c/\c.headD (.int 0)∈c:=by
 have a:c.headD (.int 0)∈c:=by cases c with|nil=>show absurd rfl d|cons _ _=>show AR
 show⟨?_,a⟩;unfold pick;cases l:inR i c with|false=>show a|true=>show AV ((Ct _ _).mp l) λh j=>?_;have b:i.toNat<_:=Ie (Aa (A9 h) (by simp+arith)) (Aa (A9 j) (by simp+arith));show J G0 ?_;show J (Cz b) ?_;show LA b
def Jn.DU(h:Jn g q c v L)(b:c≠[])(a:∀w∈c,Aj w=true):Aj v=true:=by
 rcases h with⟨_,rfl,_⟩|⟨_,u,_,⟨i,_,rfl,_⟩|⟨_,_,_,x,j,p,l,_,_,d⟩⟩;·show a _ (IY (i:=0) b).2
 ·show a _ (IY b).1
 ·show d.S7 a
def V9(j:b=Fc d)(h:∀t∈d,Aj t=true):∀t∈b,Aj t=true:=λt a=>h t (C9.mp (j▸a)).1
def WA(j:a=Fc d):a.length<=d.length:=AQ (AY (AE _ j)) (H9 _ _)
def HN.DU{r}(h:HN g q c v r L)(E:c≠[]):((∀w∈c,Aj w=true)->Aj v=true)/\(∀t∈r,Aj t=true)/\r.length<=2:=by cases h with|out N p d e=>show⟨λl=>l _ (BX p▸(IY (i:=0) E).2),λt j=>As.mp (d▸j)▸rfl,AQ (AY (AE _ d)) (A1 _)⟩|run N C u t m y f h=>have j:=(f.facts (O:=0)).2.2;cases h with|num i s p d e=>show⟨λl=>l _ (BX p▸(IY E).1),V9 d (Oj j rfl),WA d⟩|sum A k z d Y=>show⟨Y.casesOn λx n D o a b Q=>Q.S7,V9 d λB h=>As.mp h▸j,AQ (WA d) (A1 _)⟩
end
end
mutual
open A
def J4:A':=.dict [(txt "b",Hb 2 true),(txt "not b",Hb 2 false)] 0
structure Sl(u:Ca)(ku kb:Nat)(ρ:Env):Prop where
 Hj:ρ 29=some (.ref 1)
 JI:ρ 28=some (.ref ku)
 dt:ρ 31=some (.ref kb)
 Nl:ρ 20=some (.lst (A3 (CL u)))
 QO:ρ 27=some (.lst (u.indexes.map λt=>(B7 t).toV))
 dq:ρ 13=some (B7 u.other).toV
noncomputable def RN(a:Nat):List V:=[.ref 1,.ref a,.int (0:Nat),.int (1:Nat),.int (2:Nat)]
def WU(a:Nat):Env:=upd (upd (upd (upd (upd (λb=>none) 30 (.int (2:Nat))) 23 (.int (1:Nat))) 22 (.int (0:Nat))) 28 (.ref a)) 29 (.ref 1)
end
section
mutual
open A
variable{n O M d m k j a:Nat}{g L c G X:GS}{f T s i:St}{P:Pg}{e AC:Env}{o I H p:A'}{B:Ca}
def IW(b:6<=k)(h:∀m l,X.part=some (m,l)->k≠m):Dn X k=X.other k:=by obtain⟨j,rfl⟩:∃j,k=j+6:=⟨_,OM b⟩;show(?_:Cr X _=_);unfold Cr;cases r:X.part with|none=>rfl|some q=>obtain⟨m,l⟩:=q;show AF (h m l r)
def GA(b:e 28=some (.ref a))(h:f.objs a=some (EY B))(l:DA (R2 B) (txt q)=some v):AD P (.idx (.var 28) (.str (Str.ofString q))) e f=some (v,f):=BM (AH b) ?r (KR h l)
set_option maxHeartbeats 2000000 in
def g5(N:g.part=none)(E:Ax g g.next)(At:6<=a)(Ch:a<g.next)(Db:g.other a=some (EY B))(u:EK B){C:Prop}(Do:∀e m,Sl B a g.next e->g.next+1<=m->(∀r,Ao (AN T3 (n+8)) (GJ.body.drop 3) e (U ((g.lay g.next J4).at m))=some r->Ao (AN T3 (n+8)) GJ.body (WU a) (U g)=some r)->C):C:=by
 let G:=g.lay g.next J4;have p:B.some.length<60:=cnt (HQ (Cy u.sl) (HQ (RW _ u.rn u.rb).2 (by decide)));have Q:B.some.length<lim:=Br p (by decide);have w:∀m,(U (G.at m)).objs a=some (EY B):=λm=>(IW (X:=G.at m) At λd b l=>by rw[show(G.at m).part=g.part from rfl,N]at l;show AS l).trans ((show(if a=g.next then _ else g.other a)=g.other a from AF (Av Ch)).trans Db);have y:∀m,(U (G.at m)).objs g.next=some J4:=λm=>(IW (X:=G.at m) E.1 λd b l=>by rw[show(G.at m).part=g.part from rfl,N]at l;show AS l).trans (show(if g.next=g.next then _ else _)=_ from AG rfl);let AC:Env:=upd (WU a) 31 (.ref g.next);have Y:∀(e:Env)(m:Nat),e 28=some (.ref a)->AD (AN T3 (n+8)) (.idx (.var 28) (.str "bits")) e (U (G.at m))=some (.bool B.bits,U (G.at m)):=λe m h=>GA h (w m) ?r;have D:A3 (CL B)=B.some.map λl=>(FW l).toV:=by delta A3 CL;show J Bj ?_;rfl
 have A:∃m,g.next+1<=m/\A8 (AN T3 (n+8)) (GJ.body.getD 1 .fail) AC (U (G.at (g.next+1)))=some (.next,upd AC 20 (.lst (A3 (CL B))),U (G.at m)):=by cases x:B.bits with
  |true=>show⟨g.next+1,Ag _,Az (Gb (d:=B.some) (F:=El.toV) (E:=λl=>(FW l).toV) (EC (GA ?r (w _) ?r) ?r) (λl z=>?_) Q) (Mine.AU D rfl)⟩;have q:=u.sb l z;replace q:=x▸q;have v:=Y (upd (clear AC [12,115]) 12 l.toV) (g.next+1) ?r;rw[x]at v;show⟨_,by rfl,E6 v ?r (G' (AH ?r) (RV (y _)) (AL (AH ?r) (AL (AH ?r) ?r)) ?_)⟩;cases l with|num t=>cases q.1|F' t=>clear q;cases t<;>show(b1 (La (y _)) rfl:(dictAt _ _).bind _=_)|b=>show Nj (y _)|nb=>show Nj (y _)
  |false=>show⟨_,A2 _ _,Az (UI (d:=B.some) (F:=El.toV) (E:=λl=>(FW l).toV) (EC (GA ?r (w _) ?r) ?r) (λl z=>?_) Q) (Mine.AU D rfl)⟩;have q:=u.sb l z;rw[x]at q;show⟨_,by rfl,λm=>?_⟩;have v:=Y (upd (clear AC [12,115]) 12 l.toV) m ?r;rw[x]at v;cases l with|num t=>show Fz v ?r (BI (AL (AH ?r) (AL (AH ?r) (AL (AH ?r) ?r))) (Pk (n:=n+4) q.2 (by decide) (by decide)))|F' t=>show AX q|b=>show AX q|nb=>show AX q
 (have i:=A;show AJ i λm1 j A=>?_;(skip));let c:Env:=upd AC 20 (.lst (A3 (CL B)));have f:=UI (P:=AN T3 (n+8)) (e:=c) (G:=G) (m:=m1) (d:=B.indexes) (F:=t3) (E:=λt=>(B7 t).toV) (b:=.call 102 [.var 12,.var 22,.var 23]) (p:=.nm 12) (N:=.val (.idx (.var 28) (.str "indexes"))) (r:=[12,115]) (EC (GA ?r (w _) ?r) ?r) (λt s=>⟨_,by rfl,λm=>BI (AL (AH ?r) (AL (AH ?r) (AL (AH ?r) ?r))) (Pk (n:=n+4) (f:=U (G.at m)) (u.ib t s) (by decide) (by decide))⟩) (by show J u.il ?_;rcases u.rn with h|h<;>show J h ?_<;>decide);show Do (upd (upd c 27 (.lst (B.indexes.map λt=>(B7 t).toV))) 13 (B7 B.other).toV) (m1+2*B.indexes.length+2) ⟨by rfl,by rfl,by rfl,by rfl,by rfl,by rfl⟩ (AQ j (Mw (A2 _ _))) λr o=>?_;show AI (by have k:(U g).new J4=U (G.at (g.next+1)):=F3 E;show Mine.AU k ?_;show Az (Le ?r) ?r) (AI A (AI (Az (CI (AL f (AL (BI (AL (GA ?r (w _) ?r) (AL (AH ?r) (AL (AH ?r) ?r))) (Pk (n:=n+4) (f:=U (G.at (m1+2*B.indexes.length))) u.ob (by decide) (by decide))) ?r))) ?r) o))
end
end
section
mutual
open A
variable{n O M p m k l b:Nat}{g L d G X:GS}{f T w r:St}{P:Pg}{e AC:Env}{o I H s:A'}{B:Ca}{D y:Int}
def kg{a c:Type}{u:List a}{ys:List c}(h:u.length=ys.length):(u.zip ys).map (λE=>E.2)=ys:=List.map_snd_zip (AY h.symm)
def jt(a:EK B):He (CC B) (CL B)=[.ref 1,.tup [.tup (B.DM.map Aw),.lst (A3 (CL B))],.lst (B.indexes.map λt=>(B7 t).toV),.int 0]:=by unfold He;(show J (by show J Bj ?_;have:((B.DM.zip _).map _).map Aw=_:=J (SU a.il.symm) rfl;rw[Bj]at this;show this:(CC B).map (λz=>Aw z.1)=B.DM.map Aw) ?_;show J (by show J Bj ?_;have:((B.DM.zip B.indexes).map _).map (λt=>(B7 t).toV)=_:=J (kg a.il.symm) rfl;rw[Bj]at this;show this:(CC B).map (λz=>z.2.toV)=B.indexes.map λt=>(B7 t).toV) ?_;rfl)
def iT{c:Bool}{A D:Prop}(j:c=true)(h:if c then A else D):A:=(AG j).mp h
def iF{c:Bool}{A D:Prop}(j:c=false)(h:if c then A else D):D:=(AF λq=>Ck (q.symm.trans j)).mp h
def jT{c:Bool}{A D:Prop}(j:c=true)(h:A):if c then A else D:=(AG j).mpr h
def jF{c:Bool}{A D:Prop}(j:c=false)(h:D):if c then A else D:=(AF λq=>Ck (q.symm.trans j)).mpr h
def My(B:Ca)(g:GS)(v:Val)(a:List Val)(d:GS):Prop:=if B.top then Jn g (CC B) (CL B) v d/\a=[]else HN g (CC B) (CL B) v a d
def PH(B:Ca)(d:GS)(v c:Val)(a:GS):Prop:=if B.bits then c=v/\a=d else CM d B.sign v (B7 B.other) c a
def PJ(B:Ca)(a:GS)(h:Val)(j:List Val)(i:Val)(c:GS):Prop:=if B.top then i=h/\c=a else AO (h::j) a i c
def Sn(B:Ca)(X:GS)(c:List Val)(a:Nat):Prop:=if B.top then X.part=none/\c=[]else X.part=some (a,A3 c)
def RO(B:Ca)(a:Val):List Val:=(if B.want then a else CS a)::if B.C' then[.bit 2 true]else[] 
def gw(N:Wk (O+2) X)(C:Dn X b=some (EY B))(Ch:e 29=some (.ref 1))(z:e 28=some (.ref b))(At:e 13=some (B7 B.other).toV)(A:e 6=some v.toV)(EQ:B.bits=true->Aj v=true)(Ev:B.bits=false->Aj v=false/\Am X D M v)(FM:Am X D M (B7 B.other))(Db:D+D<1000000)(Do:M+M<64){x:Prop}(E:∀t c q u,A8 (AN T3 (n+8)) (GJ.body.getD 5 .fail) e (U X)=some (.next,u,U (c.at q))->PH B X v t c->BN X c->Up X c->Wk O c->X.next<=q->Aj t=true->u 6=some t.toV->(∀i,i≠6->u i=e i)->x):x:=by have j:AD (AN T3 (n+8)) (.not (.idx _ (.str "bits"))) e (U X)=_:=Gf (GA z C ?r) ?r;cases h:B.bits with|true=>replace j:=h▸j;show E v X _ e (Bq j ?r ?r) (jT h ⟨rfl,rfl⟩) BN.rfl Up.rfl (N.le (A2 _ _)) (Ag _) (EQ h) A λp p=>rfl|false=>replace j:=h▸j;show AV (Ev h) λa Q=>Z0 _ N a Q FM Db Do λt c q m Y d f g k l=>E t c q (upd e 6 _) (BS j ?r (AI (Az (B5 (AH Ch) ?r ?r (AL (GA z C ?r) (AL (AH A) (AL (AH At) ?r))) m) ?r) ?r)) (jF h Y) d f g k l ?r λi o=>AF o
def gv(E:Wk (O+8) X)(FM:Dn X b=some (EY B))(Y:e 29=some (.ref 1))(Do:e 28=some (.ref b))(At:e 6=some v.toV)(Ch:Aj v=true)(Ev:∀t∈c,Aj t=true)(z:c.length<=2)(A:Sn B X c a)(EQ:6<=a){Q:Prop}(Db:∀x h q N,A8 (AN T3 (n+8)) (GJ.body.getD 6 .fail) e (U X)=some (.next,N,U (h.at q))->PJ B X v c x h->BN X h->Up X h->Wk O h->X.next<=q->Aj x=true->N 6=some x.toV->(∀i,i≠6->N i=e i)->Q):Q:=by have j:AD (AN T3 (n+8)) (.not (.idx _ (.str "top"))) e (U X)=_:=Gf (GA (v:=.bool _) Do FM ?r) ?r;cases u:B.top with|true=>replace j:=u▸j;show Db v X _ e (Bq j ?r ?r) (jT u ⟨rfl,rfl⟩) BN.rfl Up.rfl (E.le (A2 _ _)) (Ag _) Ch At λs s=>rfl|false=>
  replace j:=u▸j;replace A:=iF u A
  (show TH (n:=n+5) (O:=O) (E.le (J B9 (lf z (by simp+arith)))) (λt C=>by
    show mc C ?_ λC=>?_;·show Ch
    ·show Ev t C) (J B9 (Ex (Ai z (Ay _ _)))) λx h f d g=>?_);show BG d.facts λp r o=>Db x h _ (upd e 6 _) (BS j ?r (AI (Az (B5 (AH Y) ?r ?r (AL (BA (KD (AL (AH At) ?r)) (IG (v:=.ref a) (AH Y) ?r (by show J A ?_;rfl)) (by
   have m:(U X).objs a=some (.list (A3 c)):=RI A EQ;have l:[v.toV].length+(A3 c).length<lim:=by have:(A3 c).length=c.length:=Al ..;show J this ?_;show Ai (show 1+c.length<=3 by show lf z (by simp+arith)) (by decide)
   show b1 (JO m) ((AG l).trans rfl))) ?r) f) ?r) ?r)) (jF u d) g p (r (E.le (J B9 (lf z (by simp+arith))))) (A1 _) o ?r λi k=>AF k
def gz(Db:Wk (O+1) X)(EQ:X.part=none)(C:Dn X b=some (EY B))(At:Dn X Ch=some J4)(E:e 29=some (.ref 1))(u:e 28=some (.ref b))(N:e 31=some (.ref Ch))(x:e 6=some v.toV)(j:Aj v=true):∃h Do,Ao (AN T3 (n+8)) (GJ.body.drop 8) e (U X)=some (.next,Do,U h)/\RS ((if B.want then v else CS v)::if B.C' then[.bit 2 true]else[]) X h:=by
 let q:=if B.want then v else CS v;let c:List Val:=if B.C' then[.bit 2 true]else[];let AC:=upd e 6 q.toV;have d:∀t∈c,Aj t=true/\c.length<=1:=λt a=>by have i:c=if B.C' then _ else[]:=rfl;rw[i]at a⊢;cases A:B.C' with|true=>rw[A]at a;show J (As.mp a) ?_;show⟨rfl,Ag _⟩|false=>replace a:=A▸a;cases a
 have z:c.length<=1:=by show(?_:(if B.C' then _ else[]).length<=1);split<;>decide
 (show M8 (n:=n+6) (d:=q::c) Db (λt a=>by
   show mc a ?_ λa=>?_;·show by show(?_:Mine.Aj (if B.want then v else _)=_);split;show j;show NY j
   ·show(d t a).1) (J B9 (Ex (Ai z (Ay _ _)))) λh i Q=>?_);have Y:Cc (U X) .add (.lst [q.toV]) (.lst (A3 c))=_:=AG (by have:(A3 c).length=_:=Al ..;show J this ?_;show Ai (show 1+_<=2 by show lf z (by simp+arith)) (by decide));show⟨h,AC,AI (AC:=AC) (Az (by show JE (GA u C (v:=.bool _) ?r) ?r (?_:_=some ((if B.want then v else CS v).toV,_));cases B.want with|true=>show AH (P:=AN T3 (n+8)) x|false=>show BI (AL (AH x) ?r) (M6 j)) ?r) (AI (D3 (B5 (AH E) ?r ?r (AL (BA rfl (by show JE (GA (show AC 28=_ from u) C ?r) ?r (?_:_=some (V.lst (A3 (if B.C' then[.bit 2 true]else[])),_));cases B.C' with|true=>show KD (AL (BM (AH (show AC 31=_ from N)) ?r (KR At ?r)) ?r)|_=>show rfl) Y) ?r) i)) ?r),Q⟩
end
end
structure Mz(g:GS)(u:Ca)(B:Int)(L:Nat):Prop where
 ok:EK u
 el:Ir g (CC u) (CL u) B L
 hB:B+B<1000000
 hL:L+L<64
 hT:u.bits=true->∀w∈CL u,Aj w=true
 ho:Am g B L (B7 u.other)
 VA:u.top=false->∀ts g1 t g2,Fx (CB (CC u)) ts (cr g) g1->AO ts g1 t g2->Cm g2 t.ps
 U':u.bits=false->∀v nl X,(if u.top then Jn (cr g) (CC u) (CL u) v X/\nl=[] else HN (cr g) (CC u) (CL u) v nl X)->Aj v=false/\Am X B L v
section
mutual
open A
variable{n O M d m k c a:Nat}{g L b G X:GS}{f T p i:St}{P:Pg}{e AC:Env}{o I H l:A'}{B:Ca}{D y:Int}
def Ir.core(h:Ir g r q D M)(j:L.vars=g.vars):Ir L r q D M:=⟨h.Lp,h.hB,λz hz=>⟨(h.hz z hz).1.core j,(h.hz z hz).2⟩,h.hl,h.hL,h.Np,h.hp.core j,h.h0,h.QU,λw hw=>(h.hw w hw).core j⟩
def Ol(j:EK B):(CC B).length<=2:=by unfold CC;(rewrite[Al];show J List.length_zip ?_;show J j.il ?_;rewrite[Nat.min_self]);show j.rn.elim (λh=>AQ (AY h) (by decide)) AY
def gy(w:Wk (O+2*(CL B).length+27) G)(s:G.part=none)(Ch:6<=a)(EQ:a<G.next)(Db:G.other a=some (EY B)){Ev}(j:Sl B a Ev e)(u:Mz G B D M){At:Prop}(Do:∀v A X,(∀r,Ao (AN T3 (n+8)) (GJ.body.drop 5) (upd e 6 v.toV) (U X)=some r->Ao (AN T3 (n+8)) (GJ.body.drop 3) e (U G)=some r)->My B (cr G) v A (cr X)->X.other=G.other->Sn B X A G.next->Up G X->Wk O X->G.next<=X.next->At):At:=by
 have i:=(IW Ch λd f h=>by rw[s]at h;show AS h).trans Db;have b:=Ol u.ok;have t:AD (AN T3 (n+8)) (.idx _ (.str "top")) e _=some (.bool _,U G):=GA j.JI i ?r;have run:∀{v:Val}{c X:GS},_->A8 (AN T3 (n+8)) _ e (U G)=some (_,e,U c)->Ae T3 _ 34 (He _ _) _=some (v.toV,U X)->∀r,_->Ao _ (GJ.body.drop 3) e _=some r:=λ{v c X}o m g r p=>by rw[jt u.ok]at g;show AI m (AI (Az (B5 (AH j.Hj) ?r ?r (AL (CI (AL (GA j.JI o ?r) (AL (AH j.Nl) ?r))) (AL (AH j.QO) rfl)) g) ?r) p)
 cases q:B.top with|true=>replace t:=q▸t;show Z5 (w.le (lf b (lf b (by simp+arith)))) s u.el λv X h C x E z N=>Do v [] X (run i (Az (E6 t ?r ?r) (OL (AH j.Hj) ⟨_,rfl⟩ (WO s))) h) (jT q ⟨C,rfl⟩) x.1 (jT q ⟨x.2.trans s,rfl⟩) E z N|false=>rw[q]at t;let k:={G with part:=some (G.next,[]),next:=G.next+1};have wp:Wk _ k:=⟨⟨LF w.low.1,λd f h=>by(show AV (s2 h) λQ Y=>?_;clear h;subst Q Y);show Cq _⟩,w.l1,w.l2,w.l3,w.DW⟩;show Z4 (n:=n+1) (O:=O) (wp.le (lf (Nat.mul_le_mul_left 6 b) (by simp+arith))) rfl w.low.1 (by decide) (u.el.core rfl) (u.VA q) λv X A h C x E z N l=>Do v A X (run ?_ (by show Az (Fz t ?r ?r) (OL (AH j.Hj) ⟨Fd G.part,?_⟩ (gW s w.low));show B1 (show _ by have:=w.low.1;show Av (AZ (Ay _ _) this))) h) (jF q C) x (jF q E) ⟨z.vs,z.ts⟩ N (AQ (A1 _) l);show(IW Ch λd f h=>by(show AV (s2 h) λQ Y=>?_;clear h;subst Q Y);show Av EQ).trans Db
def aA(w:Wk (O+2*(CL B).length+40) g)(Ev:g.part=none)(Db:6<=a)(At:a<g.next)(On:g.other a=some (EY B))(r:Mz g B D M){Ch:Prop}(ap:∀L v Q b Do JP EQ M2,Ae T3 (n+9) 105 (RN a) (U g)=some (.none,U L)->My B (cr g) v Q b->PH B b v Do JP->PJ B JP Do Q EQ M2->RS (RO B EQ) M2 (cr L)->L.other=g.other->L.part=none->Up g L->Wk O L->g.next<=L.next->Ch):Ch:=by
 show g5 (n:=n) Ev w.low Db At On r.ok λe m A C No=>?_;have o:=w.low.1;generalize N:(g.lay _ J4).at m=G at No;have UF:G.vars=_:=Mine.AU N rfl;have H:cr G=cr g:=Mine.AU N rfl;have K:G.next=m:=Mine.AU N rfl;have oG:∀x,_->G.other x=_:=λx c=>Mine.AU N (AF c);have ci:Wk _ G:=Mine.AU N ⟨En Ev (AQ o (AQ (A1 _) C)),w.l1,w.l2,w.l3,w.DW⟩;have ca:Up g G:=Mine.AU N ⟨⟨[],(Bv _).symm⟩,⟨[],(Bv _).symm⟩⟩;have FM:=(oG a (Av At)).trans On;have TW:Mz G B D M:=⟨r.ok,r.el.core UF,r.hB,r.hL,r.hT,r.ho.core UF,J H r.VA,J H r.U'⟩;show gy (n:=n) (O:=O+13) (ci.le (by simp+arith)) (Mine.AU N Ev) Db (AZ (Ai (BH At) C) (AY K.symm)) FM A TW λv Q k a2 f Fa y u1 ce ar=>?_;have ac:=λz=>by cases j:B.top with|true=>show(iT j f).1.DU r.el.h0 (r.hT z)|false=>show(HN.DU (iF j f) r.el.h0).1 (r.hT z)
 have NE:(∀t∈Q,Aj t=true)/\Q.length<=2:=by cases j:B.top with|true=>show J (iT j f).2 ⟨CP _,by decide⟩|false=>show(HN.DU (iF j f) r.el.h0).2
 have am:_->_/\Am k D M v:=λz=>by show AV (r.U' z v Q (cr k) (show My B (cr g) v Q (cr k)from H▸f)) λu l=>⟨u,l.core rfl⟩
 have Rs:∀{X:GS},X.part=k.part->∀u F,X.part=some (u,F)->u=m:=λ{X}V u F h=>by rw[V]at h;cases j:B.top with|true=>show AS ((iT j y).1.symm.trans h)|false=>show(s2 ((iF j y).symm.trans h)).1.symm.trans K
 have TE:∀{X:GS},X.other=G.other->_:=λ{X}V WF=>(IW Db λu l h=>J (Rs WF u l h) (Av (Ai (BH At) C))).trans (J V FM);show gw (n:=n) (e:=upd e 6 _) ce (TE Fa rfl) A.Hj A.JI A.dq ?r ac am ((TW.ho).up u1) r.hB r.hL λDo S Tk db WP Gc Y u2 ch Ps t2 X0 p=>?_;show gv (n:=n) (X:=S.at Tk) ((ch.at (J Y.2.1 Ps)).le (Ag _)) (TE (Y.1.trans Fa) Y.2.2) ((p 29 (by decide)).trans A.Hj) ((p 28 (by decide)).trans A.JI) X0 t2 NE.1 NE.2 (by cases j:B.top with|true=>show jT j ⟨Y.2.2.trans (iT j y).1,(iT j y).2⟩|false=>show jF j (Y.2.2.trans (Mine.AU K (iF j y)))) (AQ o (AQ (A1 _) C)) λEQ E Fs Uf Wp Go Ix bv R a1 be ZB Z=>?_;have Sc:=Ix.1.trans (Y.1.trans Fa);have Ok:=by have:=a1;show AQ (AY K.symm) (AQ ar (AQ Ps this))
 have W:=(Z 29 (by decide)).trans ((p 29 (by decide)).trans A.Hj);have bd:(∀s,A8 (AN T3 (n+8)) (GJ.body.getD 7 .fail) Uf (U (E.at Fs))=some (.next,Uf,U s)->s.part=none->s.vars=E.vars->s.BD=E.BD->s.made=E.made->s.next=Fs->(∀x,x≠m->s.other x=G.other x)->Ch)->Ch:=λOp=>by cases T:(E.at Fs).part with|none=>show Op _ (Az ?r (OL (AH W) ⟨_,rfl⟩ (WO T))) T rfl rfl rfl rfl λx dL=>J Sc rfl|some q=>obtain⟨u,F⟩:=q;have al:=Rs (Ix.2.2.trans Y.2.2) u F T;show Op _ (Az ?r (OL (AH W) ⟨_,rfl⟩ (gX T))) rfl rfl rfl rfl rfl λx c=>(?_:(if _ then _ else _)=_);show J (AF λq=>c (q.trans al)) (J Sc rfl)
 show bd λs W1 d IN H1 FS Re Fk=>?_;have UV:Wk _ s:=⟨En d (AQ o (AQ (A1 _) (AQ C (AQ Ok (AY Re.symm))))),by show J IN ?_;have:=R.l1;show AZ (A1 _) (BH this),by show J FS ?_;have:=R.l2;show AZ (A1 _) (BH this),by show J H1 ?_;have:=R.l3;show AZ (A1 _) (BH this),J FS R.DW⟩;(show Cg (gz (n:=n) UV d ((IW Db λu l h=>by rw[d]at h;show AS h).trans ((Fk a (Av (Ai (BH At) C))).trans FM)) ((IW o λu l h=>by rw[d]at h;show AS h).trans ((Fk _ (Av C)).trans (Mine.AU N (AG rfl)))) W ((Z 28 (by decide)).trans ((p 28 (by decide)).trans A.JI)) ((Z 31 (by decide)).trans ((p 31 (by decide)).trans A.dt)) ZB be) λck ds XV P=>?_);have I:=P.fr;have i:=P.wk UV;have:=Uk (w:=105) (D:=RN a) ?r ?r (No _ (a2 _ (AI WP (AI Wp (AI W1 XV)))));rw[EV w.low (En (I.2.2.trans d) o) λx c=>J I.1 (J (Fk x (Av (Ai (BH c) C))) (J (oG x (Av c)) rfl))]at this;show ap _ v Q (cr k) Do (cr S) EQ (cr E) this (H▸f) ?_ ?_ ?_ rfl (I.2.2.trans d) ?_ ⟨⟨i.low.1,i.low.2⟩,i.l1,i.l2,i.l3,i.DW⟩ (J I.2.1 (J Re (lf C (lf Ok (by simp+arith)))));·cases z:B.bits with|true=>show jT z ⟨(iT z Gc).1,AE cr (iT z Gc).2⟩|false=>show jF z (CM.cr (iF z Gc))
 ·cases j:B.top with|true=>show jT j ⟨(iT j Go).1,(AE cr (iT j Go).2).trans rfl⟩|false=>show jF j (AO.cr (g:=S.at Tk) (iF j Go))
 ·have:=P.cr;rw[(by unfold cr;(show J IN ?_;show J H1 ?_;show J FS ?_;rfl):cr s=cr E)]at this;show this
 ·have Tl:=bv;have cc:Up E s:=⟨⟨[],by(show J IN ?_;rewrite[Bv];rfl)⟩,⟨[],by(show J H1 ?_;rewrite[Bv];rfl)⟩⟩;have cd:=P.up;have T0:=((((ca.trans u1).trans u2).trans ⟨Tl.vs,Tl.ts⟩).trans cc).trans cd;show⟨T0.vs,T0.ts⟩
end
end
mutual
open A
set_option genCtorIdx false in
inductive Told where
 |row (r:Row)
 |EX (b:Nat) (r:Row)
 |imp (b:Nat) (r:Row)
 |clause (u d:List Nat)
 |or (xs:List Nat) (z:Nat)
 |and (xs:List Nat) (z:Nat)
 |eof (i:Nat) (ns:List Int) (z:Nat)
 |Di (i:Nat) (xs:List Nat) (z:Nat)
def Told.toV:Told->V|.row r=>r.toV|.EX b r=>OH b r|.imp b r=>IP b r|.clause u d=>LX u d|.or a z=>OB a z|.and a z=>M0 a z|.eof i c z=>UU i c z|.Di i a z=>UQ i a z
noncomputable def CJ:Told->List Nat|.row r=>r.xs|.EX b r=>r.xs++[b]|.imp b r=>r.xs++[b]|.clause u d=>u++d|.or a z=>a++[z]|.and a z=>a++[z]|.eof i _ z=>[i,z]|.Di i a z=>[i,z]++a
structure HZ(r:Row):Prop where
 l:r.cs.length=r.xs.length
 s:r.xs.length<1000
 a:∀a∈r.cs,a.natAbs<=1000000
def Tok:Told->Prop|.row r=>HZ r|.EX b r=>HZ r/\b∉r.xs|.imp b r=>HZ r/\r.eq=true|.clause u d=>u.length<1000/\d.length<1000/\∀x∈u,x∉d|.or a z=>a.length<1000/\a≠[]/\z∉a|.and a z=>a.length<1000/\a≠[]/\z∉a|.eof i c z=>c.length<1000/\z≠i|.Di i a z=>a.length<1000/\z≠i/\z∉a
noncomputable def dot(v:Nat->Int)(a:List Int)(u:List Nat):Int:=((a.zip u).map λp=>p.1*v p.2).sum
def B2(v:Nat->Int)(r:Row):Bool:=if r.eq then dot v r.cs r.xs==r.c else decide (dot v r.cs r.xs<=r.c)
noncomputable def D2(v:Nat->Int):Told->Option Int|.or a _=>(a.map v).max?|.and a _=>(a.map v).min?|.eof i b _=>if 1<=v i/\v i<=b.length then b[(v i-1).toNat]? else none|.Di i a _=>if 1<=v i/\v i<=a.length then(a[(v i-1).toNat]?).map v else none|_=>none
noncomputable def EZ:Option Int->V|none=>.none|some i=>.int i
end
section
mutual
open A
variable{n O M c m k a b ep:Nat}{f T g d:St}{P:Pg}{e AC:Env}{K:List (Nat×Int)}
def F5(h:k<1000):k+1<lim:=Br (Ex h) (by decide)
def add_l(h:u.length+ys.length<lim):Cc f .add (.lst u) (.lst ys)=some (.lst (u++ys)):=AG h
def Yg(h:u.length+ys.length<lim):Cc f .add (.tup u) (.tup ys)=some (.tup (u++ys)):=AG h
def aN(o:Tok t):Ae T3 (n+1) 108 [t.toV] f=some (.lst ((CJ t).map λ(x:Nat)=>V.int x),f):=by
 have j:∀{v:V}{Fg},Ao _ _ (upd _ 33 t.toV) f=some (.ret v,Fg,f)->Ae T3 _ _ _ f=_:=λ{v Fg}h=>by have:=DR (B:=T3) (n:=n) (w:=108) (D:=[_]) ?r ?r h;show J this ?_;rewrite[EG];rfl
 have l:∀p:List Nat,(p.map λ(x:Nat)=>V.int x).length=_:=λp=>Al ..;cases t with|row r=>obtain⟨q,y,p,w⟩:=r;show j (Fg:=upd (λC=>none) 33 (Told.toV (.row ⟨q,y,p,w⟩))) (by clear j;cases q<;>rfl)|EX s r=>show J C8 (j (AI ?r (Ap (BS ?r ?r (Ap (BL (BA ?r ?r (add_l (by rw[l];show F5 o.1.s)))))))))|imp s r=>show J C8 (j (AI ?r (Ap (BS ?r ?r (Ap (BL (BA ?r ?r (add_l (by rw[l];show F5 o.1.s)))))))))|clause u A=>show J C8 (j (AI ?r (AI ?r (Ap (BS ?r ?r (Ap (BL (Bk (AL (BA ?r ?r (Yg (by rw[l,l];show Br (Nat.add_lt_add o.1 o.2.1) (by decide)))) ?r) ?r))))))))|or p z=>show J C8 (j (AI ?r (AI ?r (AI ?r (Ap (BS ?r ?r (Ap (BL (BA ?r ?r (add_l (by rw[l];show F5 o.1)))))))))))|and p z=>show J C8 (j (AI ?r (AI ?r (AI ?r (Ap (BS ?r ?r (Ap (BL (BA ?r ?r (add_l (by rw[l];show F5 o.1)))))))))))|eof i B z=>show j rfl|Di i p z=>show J C8 (j (AI ?r (AI ?r (AI ?r (AI ?r (Ap (BL (BA ?r ?r (add_l (u:=[_,_]) (by rw[l];show Br (by show(?_:2+_<1002);have:=o.1;show lf this (by simp+arith)) (by decide)))))))))))
structure Eu(K:List (Nat×Int))(kk:Nat)(σ:St):Prop where
 ob:∃ep,σ.objs kk=some (.dict (encD K) ep)
def Eu.get(h:Eu K k f){x:Nat}(i:e 34=some (.ref k))(l:AD P j e f=some (.int x,f))(o:x∈keys K):AD P (.idx (.var 34) j) e f=some (.int (Ak K x),f):=Ac h.ob λep ob=>BM (AH i) l (VD ob ((Ni x K).2 o))
def Eu.new(h:Eu K k f)(o:A')(j:k<f.next):Eu K k (f.new o):=⟨h.ob.imp λl i=>(B1 (Av j)).trans i⟩
def Xf(h:List Int)(u:List Nat):Es (h.map V.int) (u.map λ(x:Nat)=>V.int x)=(h.zip u).map λp=>V.tup [.int p.1,.int p.2]:=Xg ..
def sum_ints{i:Type}(F)(l:List i):Cb f .sum [.lst (l.map λx=>V.int (F x))]=some (.int (l.map F).sum,f):=by
 have:ED (l.map λx=>V.int (F x))=some (l.map F):=by induction l with|nil=>rfl|cons j l h=>show m1 h rfl
 show(?_:((ED _).map _).map _=_);show J this ?_;rfl
def M9(h:HZ r)(o:Eu K k f)(s:k<f.next)(t:∀x∈r.xs,x∈keys K):Ae T3 (n+1) 107 [r.toV,.ref k] f=some (.bool (B2 (Ak K) r),f.bump):=by let l:=upd (upd (λw=>none) 34 (.ref k)) 33 r.toV;have q:=o.new .BJ s;have u:=Gb (b:=.bin _ (.var 65) (.idx _ (.var 8))) (p:=.tup [.nm 65,.nm 8]) (r:=[65,8,115]) (by rw[<-Xf];show rfl:C2 (AN T3 n) (.zip (.idx (.var 33) (.int 1)) (.idx (.var 33) (.int 2))) l f=some ((r.cs.zip r.xs).map λp=>V.tup [.int p.1,.int p.2],some (f.next,.BJ),f.new .BJ)) (λp j=>⟨_,by rfl,BA rfl (q.get ?r rfl (t _ (HT j).2)) (F6 (C4 (h.a _ (HT j).1)))⟩) (by(show J List.length_zip ?_;show J h.l ?_;rewrite[Nat.min_self]);show GU (F5 h.s)) (Hq f _);let AC:=upd l 35 (.int (dot (Ak K) r.cs r.xs));have v:AD (AN T3 n) (.idx (.var 33) (.int 3)) AC (f.new .BJ)=_:=rfl;have kd:AD (AN T3 n) (.idx (.var 33) (.int 0)) AC (f.new .BJ)=some (DV r.eq,f.new .BJ):=rfl;have:=DR (w:=107) (D:=[_,_]) ?r ?r (AI (Az (Bk (AL u ?r) (sum_ints _ _)) ?r) (Ap (BL (by unfold B2;cases i:r.eq with|false=>rw[i]at kd;show E6 (Aq kd ?r ?r) ?r rfl|true=>rw[i]at kd;show Fz (Aq kd ?r ?r) ?r (Aq rfl (Aq (t:=true) kd ?r ?r) (by show(?_:some _=_);rw[beq_true];rfl)):AD (AN T3 n) (.ite (.cmp .eq (.idx (.var 33) (.int 0)) (.str "linear_le")) (.cmp .le (.var 35) (.idx (.var 33) (.int 3))) (.cmp .eq (.cmp .eq (.var 35) (.idx (.var 33) (.int 3))) (.cmp .eq (.idx (.var 33) (.int 0)) (.str "linear_eq")))) AC (f.new .BJ)=some (.bool (B2 (Ak K) r),f.new .BJ)))));show J this ?_;rewrite[ML];rfl
end
end
mutual
open A
noncomputable def Rv:Told->List Nat|.or a _=>a|.and a _=>a|.eof i _ _=>[i]|.Di i a _=>i::a|_=>[]
noncomputable def Lw:Told->Bool|.or _ _=>true|.and _ _=>true|.eof _ _ _=>true|.Di _ _ _=>true|_=>false
noncomputable def tz:Told->Nat|.or _ z=>z|.and _ z=>z|.eof _ _ z=>z|.Di _ _ z=>z|_=>0
noncomputable def F8(v:Nat->Int)(r:Row)(x:Nat):Option Int:=let a:=(((r.cs.zip r.xs).filter λp=>(p.2:Int)==(x:Int)).map λp=>p.1).sum;let b:=r.c-(((r.cs.zip r.xs).filter λp=>!(p.2:Int)==(x:Int)).map λp=>p.1*v p.2).sum;if ! a==0&&b.fmod a==0 then some (b.fdiv a)else none
end
section
mutual
open A
variable{n O M c m k a b ep:Nat}{f T g d:St}{P:Pg}{e AC:Env}{K:List (Nat×Int)}
def VC{q:Int}(j:q=a)(h:u[a]?=some v):DT f (.tup u) (.int q)=some v:=by subst j;show Gg h
def NH(l:Eu K k f)(i:e 34=some (.ref k))(o:AD P j e f=some (Gi u,f))(q:∀x∈u,x∈keys K)(p:u.length<lim):AD P (.comp (.idx (.var 34) (.var 8)) [.mk (.nm 8) (.val j) []] [8,115]) e f=some (.lst (u.map λx=>V.int (Ak K x)),f):=Gb (EC o ?r) (λx h=>⟨_,by rfl,l.get (show(upd (clear e [8,115]) 8 _) 34=_ from i) rfl (q x h)⟩) p
def fX{j:Type}{F}{l:List j}{m}(h:(l.map F).min?=some m):Cb f .min [.lst (l.map λx=>V.int (F x))]=some (.int m,f):=by
 have:ED (l.map λx=>V.int (F x))=some (l.map F):=by clear h;induction l with|nil=>rfl|cons o l i=>show m1 i rfl
 show(?_:((ED _).bind _).map _=_);show J this (?_:((l.map F).min?.map _).map _=_);show J h ?_;rfl
def fN{j:Type}{F}{l:List j}{m}(h:(l.map F).max?=some m):Cb f .max [.lst (l.map λx=>V.int (F x))]=some (.int m,f):=by
 have:ED (l.map λx=>V.int (F x))=some (l.map F):=by clear h;induction l with|nil=>rfl|cons o l i=>show m1 i rfl
 show(?_:((ED _).bind _).map _=_);show J this (?_:((l.map F).max?.map _).map _=_);show J h ?_;rfl
def TQ(H:Tok t)(E:Lw t=true)(D:Eu K k f)(A:∀x∈Rv t,x∈keys K):Ae T3 (n+1) 109 [t.toV,.ref k] f=some (EZ (D2 (Ak K) t),f):=by
 let B:Env:=upd (upd (λd=>none) 34 (.ref k)) 33 t.toV;have u:∀{v:V}{a:Env},Ao _ _ B f=some (.ret v,a,f)->Ae T3 (n+1) 109 _ f=_:=λ{v a}h=>by have:=DR (B:=T3) (n:=n) (w:=109) (D:=[t.toV,.ref k]) ?r ?r h;show J this ?_;rewrite[EG];rfl
 have L:B 34=some (.ref k):=by rfl
 have G:∀{l}{i:Nat}{v:V},_->l[i]?=some v->AD (AN T3 n) (.idx (.var 33) (.int i)) B f=_:=λC h=>BM (AH (AE some C)) ?r (Gg h);have Q:∀{i:Nat}{Y}{l}{q:Int},t.toV=.tup l->_->l[2]?=some (.tup Y)->i∈keys K->Ak K i=q->_/\AD _ (.not (.chain (.int 1) .le _ .le (.bi .len [.idx (.var 33) (.int 2)]))) B f=_:=λ{i Y l q}C r y b c=>by have p:=D.get L (G (i:=1) C r) b;rw[c]at p;show⟨p,Gf (NO ?r p ?r (Bk (AL (G C y) ?r) ?r) ?r) ?r⟩
 cases t with
 |row=>show AX E|EX=>show AX E|imp=>show AX E|clause=>show AX E|or l z=>have I:=NH D L (G (i:=1) rfl rfl) A (GU (F5 H.1));cases s:(l.map (Ak K)).max? with|none=>show absurd (GQ.mp (List.max?_eq_none_iff.mp s)) H.2.1|some m=>show(?_:_=some (EZ (l.map (Ak K)).max?,f));show J s (u (Ap (BS (x:=.bool true) ?r ?r (Ap (BL (Fz (x:=.bool false) ?r ?r (Bk (AL I ?r) (fN s))))))))
 |and l z=>have I:=NH D L (G (i:=1) rfl rfl) A (GU (F5 H.1));cases s:(l.map (Ak K)).min? with|none=>show absurd (GQ.mp (List.min?_eq_none_iff.mp s)) H.2.1|some m=>show(?_:_=some (EZ (l.map (Ak K)).min?,f));show J s (u (Ap (BS (x:=.bool true) ?r ?r (Ap (BL (E6 (x:=.bool true) ?r ?r (Bk (AL I ?r) (fX s))))))))
 |eof i N z=>
  show AV (Q rfl rfl rfl (A i AR) rfl) λp o=>?_;rw[Al]at o;show(?_:_=some (EZ (if 1<=Ak K i/\Ak K i<=_ then _ else none),f));by_cases j:1<=Ak K i/\Ak K i<=N.length;·show J (AG j) ?_;rw[BC j.1,BC j.2]at o;have w:(Ak K i-1).toNat<_:=Ie (Aa j.1 (by simp+arith)) (Aa j.2 (by simp+arith));show J (Cz w) ?_;show u (AI ?r (AI (Bq o ?r ?r) (AI (Az (BM rfl (BA p ?r ?r) (VC (XI (Aa j.1 (by simp+arith))) (by(show J D7 ?_;show J (Cz w) ?_);rfl))) ?r) rfl)))
  ·show J (AF j) ?_;have:(!(decide (1<=Ak K i)&&decide (Ak K i<=N.length)))=true:=by
    by_cases r:1<=Ak K i;·show J (Bz λy=>j ⟨r,y⟩) ?_;rewrite[Bool.and_false];rfl
    ·show J (Bz r) ?_;rfl
   rw[this]at o;show u (AI ?r (Ap (BS o ?r ?r)))|Di i l z=>
  show AV (Q rfl rfl rfl (A i AR) rfl) λp o=>?_;rw[Al]at o;show(?_:_=some (EZ (if 1<=Ak K i/\Ak K i<=_ then _ else none),f));by_cases j:1<=Ak K i/\Ak K i<=l.length;·show J (AG j) ?_;rw[BC j.1,BC j.2]at o;have w:(Ak K i-1).toNat<_:=Ie (Aa j.1 (by simp+arith)) (Aa j.2 (by simp+arith));show J (Cz w) ?_;let AC:Env:=upd B 12 (.int (l[(Ak K i-1).toNat]:Nat));show u (AI ?r (AI (Bq o ?r ?r) (AI (AC:=AC) (Az (BM rfl (BA p ?r ?r) (VC (XI (Aa j.1 (by simp+arith))) (by(show J D7 ?_;show J (Cz w) ?_);rfl))) ?r) (Ap (BL (E6 (x:=.bool true) ?r ?r (D.get ?r rfl (A _ (Ah _ (LA w))))))))))
  ·show J (AF j) ?_;have:(!(decide (1<=Ak K i)&&decide (Ak K i<=l.length)))=true:=by
    by_cases r:1<=Ak K i;·show J (Bz λy=>j ⟨r,y⟩) ?_;rewrite[Bool.and_false];rfl
    ·show J (Bz r) ?_;rfl
   rw[this]at o;show u (AI ?r (Ap (BS o ?r ?r)))
end
end
mutual
open A
def EU(v:Nat->Int)(x:Nat):Told->Option Int|.row r=>if r.eq then F8 v r x else none|.imp b r=>if !(x:Int)==(b:Int)&&v b==1 then F8 v r x else none|.EX b r=>if(x:Int)==(b:Int)then some (Bu (B2 v r))else none|.clause u d=>if((u.filter λ(y:Nat)=>!(y:Int)==(x:Int)).any λy=>v y==1)||(d.filter λ(y:Nat)=>!(y:Int)==(x:Int)).any λy=>v y==0 then none else some (if u.any λ(y:Nat)=>(y:Int)==(x:Int)then 1 else 0)|t=>if(x:Int)==(tz t:Int)then D2 v t else none
def E7(v:Nat->Int):Told->Bool|.row r=>B2 v r|.imp b r=>v b==0||B2 v r|.EX b r=>v b==Bu (B2 v r)|.clause u d=>(u.any λy=>v y==1)||d.any λy=>v y==0|t=>match D2 v t with|none=>false|some i=>v (tz t)==i
end
section
mutual
open A
variable{n O M g m k j d ep:Nat}{f T o h:St}{P:Pg}{e AC:Env}{K:List (Nat×Int)}{x:Nat}
def L7{b:Type}{F:b->_}:∀l:List b,Dl (.int i) (l.map λA=>V.int (F A))=some (l.any λA=>F A==i):=by intro l;induction l with|nil=>show rfl|cons a l c=>show(?_:b2 _ _ _=_);show J c ?_;rfl
def and_3(i:AD P a e f=some (.bool s,f))(l:s=true->AD P b e f=some (.bool t,f))(p:s=true->t=true->AD P c e f=some (.bool w,f)):AD P (.and [a,b,c]) e f=some (.bool (s&&(t&&w)),f):=by cases s with|false=>show I7 i ?r|true=>cases t with|false=>show J0 i ?r (I7 (l rfl) ?r)|true=>show J0 i ?r (J0 (l rfl) ?r (and_1 (p rfl rfl)))
def bf(c:AD P a e f=some (.bool s,f))(i:s=true->AD P b e f=some (.bool t,f)):AD P (.and [a,b]) e f=some (.bool (s&&t),f):=by cases s with|true=>show J0 c ?r (and_1 (i rfl))|false=>show I7 c ?r
def sum_bound:∀{l:List Int},(∀a∈l,a.natAbs<=1000000)->l.sum.natAbs<=l.length*1000000:=by intro l;induction l with|nil=>intro q;show Ag _|cons a l i=>intro c;show J List.sum_cons (AQ (Int.natAbs_add_le _ _) (AQ (Ft (c a AR) (i λb p=>c b (Ah _ p))) (AY ((Nat.add_comm _ _).trans (Nat.succ_mul _ _).symm))))
def Ut(u:HZ r)(Db:r.eq=true)(Ch:Eu K k f)(E:k<f.next)(y:e 33=some r.toV)(At:e 34=some (.ref k))(C:e 8=some (.int x))(Do:∀A∈r.xs,A≠x->A∈keys K):∃EQ,Ao (AN T3 n) (HO.body.drop 1) e f=some (.ret (EZ (F8 (Ak K) r x)),EQ,(f.new .BJ).new .BJ):=by
 have g:=Ch.new .BJ E;have h:=g.new .BJ (LG E);have B:∀{f:St}{i:Nat}{v:V}{e},e 33=some r.toV->_->AD (AN T3 n) (.idx _ (.int i)) e f=some (v,f):=λQ b=>BM (AH Q) ?r (Gg b);have I:∀(f:St)(e),_->C2 _ _ e f=some ((r.cs.zip r.xs).map _,_,_):=λf e b=>by rw[<-Xf];show VB (B (i:=1) b rfl) (B (i:=2) b rfl) ?r ?r
 have G:(r.cs.zip r.xs).length<lim:=by(show J List.length_zip ?_;show J u.l ?_;rewrite[Nat.min_self]);show GU (F5 u.s)
 let c:=(((r.cs.zip r.xs).filter λp=>p.2==(x:Int)).map λp=>p.1).sum;let w:=r.c-(((r.cs.zip r.xs).filter λp=>! p.2==(x:Int)).map λp=>p.1*Ak K p.2).sum;have N:c.natAbs<1073741824:=by
  have:=sum_bound (l:=((r.cs.zip r.xs).filter λp=>p.2==(x:Int)).map _) λa D=>by show AJ (Ar.mp D) λp t O=>?_;clear D;obtain rfl:=O;show u.a _ (HT (C9.mp t).1).1
  rw[Al]at this;have Y:((r.cs.zip r.xs).filter λp=>(p.2:Int)==(x:Int)).length<=_:=AQ (H9 _ _) (J List.length_zip (Nat.min_le_right _ _));have h3:=u.s;have d:=Nat.mul_le_mul_right 1000000 Y;show Ai (AQ this d) (Ai (Nat.mul_le_mul_right _ (BH h3)) (by decide))
 let AC:=upd e 65 (.int c);let L:=upd AC 66 (.int w);have o:=Ge (b:=.var 17) (c:=.cmp .eq (.var 77) _) (p:=.tup [.nm 17,.nm 77]) (I f e y) (λp t=>⟨_,_,by rfl,Aq rfl (AH (show(upd (upd (clear e [17,77,115]) 17 _) 77 _) 8=_ from C)) ?r,by rfl,λT=>rfl⟩) G (Hq f _);have M:=Ge (b:=.bin _ (.var 17) (.idx _ (.var 77))) (c:=.cmp .ne (.var 77) _) (p:=.tup [.nm 17,.nm 77]) (I _ AC y) (λp t=>⟨_,_,by rfl,Aq rfl (AH (show(upd (upd (clear AC [17,77,115]) 17 _) 77 _) 8=_ from C)) ?r,by rfl,λH=>BA rfl (h.get At rfl (Do _ (HT t).2 (by intro s;rw[s]at H;simp at H))) (F6 (C4 (u.a _ (HT t).1)))⟩) G (Hq _ _);show⟨L,Ap (BS (Aq (B y rfl) ?r (J Db rfl)) ?r (AI (AC:=AC) (Az (Bk (AL o ?r) (sum_ints _ _)) ?r) (AI (Az (BA (B y rfl) (Bk (AL M ?r) (sum_ints _ _)) ?r) ?r) (Ap (BL (?_:_=some (EZ (if _&&_ then some (w.fdiv c)else _),_)))))))⟩;have m:∀{f:St},_->Cc f .mod (.int w) (.int c)=_:=λb=>AF b;have j:∀{f:St},c≠0->Cc f .fdiv (.int w) (.int c)=_:=λb=>AF (by intro q;rcases q with q|q;show b q;show absurd q (Nat.not_le_of_lt N));have l:AD (AN T3 n) (.and [.cmp .ne (.var 65) (.int 0),.cmp .eq (.bin .mod (.var 66) (.var 65)) (.int 0)]) L ((f.new .BJ).new .BJ)=_:=bf rfl λb=>Aq (BA rfl rfl (m λs=>by rw[s]at b;show AX b)) ?r ?r;cases z:! c==0&&w.fmod c==0 with|false=>replace l:=z▸l;show Fz l ?r ?r|true=>replace l:=z▸l;show E6 l ?r (BA rfl rfl (j λs=>by rw[s]at z;show AX z))
end
end
section
mutual
open A
variable{n O M g m k c d ep:Nat}{f T o l:St}{P:Pg}{e AC:Env}{K:List (Nat×Int)}{x:Nat}
def Oc(h:Tok t)(j:Lw t=true):(∀A∈Rv t,A∈CJ t/\A≠tz t)/\tz t∈CJ t:=by cases t with|row=>show AX j|EX=>show AX j|imp=>show AX j|clause=>show AX j|or p z=>show⟨λA a=>⟨CZ _ a,λb=>h.2.2 ((show A=z from b)▸a)⟩,Bx _ AR⟩|and p z=>show⟨λA a=>⟨CZ _ a,λb=>h.2.2 ((show A=z from b)▸a)⟩,Bx _ AR⟩|eof i q z=>show⟨λA a=>J (As.mp a) ⟨AR,CE h.2⟩,Ah _ AR⟩|Di i p z=>show⟨λA a=>?_,Ah _ AR⟩;show mc a ⟨AR,CE h.2.1⟩ λa=>⟨Bx _ a,λb=>h.2.2 ((show A=z from b)▸a)⟩
def Ti{A:Nat}(p:Eu K k f)(b:e 34=some (.ref k))(i:e 8=some (.int x))(q:AD P j e f=some (Gi u,f))(s:∀A∈u,A≠x->A∈keys K)(r:u.length<lim):AD P (.comp (.idx (.var 34) (.var 77)) [.mk (.nm 77) (.val j) [.cmp .ne (.var 77) (.var 8)]] [77,115]) e f=some (.lst ((u.filter λ(A:Nat)=>! A==(x:Int)).map λA=>V.int (Ak K A)),f):=Ge (EC q ?r) (λA h=>⟨_,_,by rfl,Aq rfl (AH (show(upd (clear e [77,115]) 77 _) 8=_ from i)) ?r,by rfl,λa=>p.get b rfl (s A h (by intro j;rw[j]at a;simp at a))⟩) r
def Nx(h:Dl a u=some b):BZ f .isin a (.lst u)=some b:=h
def Rn(n w:Nat)(D:List V)(f:St)(v:V):Prop:=∃q,f.next<=q/\Ae T3 n w D f=some (v,⟨f.objs,q⟩)
def Z6{t:Told}(B:Tok t)(E:Eu K k f)(At:k<f.next)(G:∀A∈CJ t,A≠x->A∈keys K):Rn (n+2) 110 [t.toV,.int x,.ref k] f (EZ (EU (Ak K) x t)):=by
 let a:Env:=upd (upd (upd (λT=>none) 34 (.ref k)) 8 (.int x)) 33 t.toV;have w:∀{v:V}{Fg:Env}{l:St}(q:Nat),Ao (AN T3 (n+1)) HO.body a f=some (.ret v,Fg,l)->f.pop l=⟨f.objs,q⟩->f.next<=q->Rn (n+2) 110 [t.toV,.int x,.ref k] f v:=λ{v Fg l}q h Z Ch=>by have:=DR (B:=T3) (n:=n+1) (w:=110) (D:=[t.toV,.int x,.ref k]) ?r ?r h;show⟨q,Ch,J this (J Z rfl)⟩
 have L:a 34=some (.ref k):=by rfl
 have C:a 8=some (.int x):=by rfl
 have D:∀{I:List V}{i:Nat}{v:V},t.toV=.tup I->I[i]?=some v->AD (AN T3 (n+1)) (.idx (.var 33) (.int i)) a f=some (v,f):=λp h=>BM (AH (show a 33=some (.tup _)from AE some p)) ?r (Gg h);have d:∀(e:Lw t=true),(∀r,Ao (AN T3 (n+1)) (HO.body.drop 4) a f=some r->Ao (AN T3 (n+1)) HO.body a f=some r)->AD (AN T3 (n+1)) (.cmp .isin (.idx (.var 33) (.int 0)) (.lst [.str "and",.str "or",.str "element",.str "element_of"])) a f=some (.bool true,f)->AD (AN T3 (n+1)) (.idx (.var 33) (.neg (.int 1))) a f=some (.int (tz t),f)->Rn (n+2) 110 [t.toV,.int x,.ref k] f (EZ (if(x:Int)==(tz t:Int)then D2 (Ak K) t else none)):=λe M W X=>by have j:=IF W (Aq (c:=.eq) (a:=.var 8) (AH C) X ?r);show AV (Oc B e) λo EQ=>?_;cases g:(x:Int)==(tz t:Int)with|false=>have j:AD (AN T3 (n+1)) _ a f=some (.bool (true&&(x:Int)==(tz t:Int)),f):=j;replace j:=g▸j;show w f.next (M _ (Ap (BL (Fz j ?r ?r)))) (EG f) (Ag _)|true=>have j:AD (AN T3 (n+1)) _ a f=some (.bool (true&&(x:Int)==(tz t:Int)),f):=j;rw[g]at j;have Do:x=tz t:=Ec (A5.mp g);show w f.next (M _ (Ap (BL (E6 j ?r (BI (AL (AH ?r) (AL (AH ?r) ?r)) (TQ (n:=n) B e E λA s=>G A (o A s).1 (J Do (o A s).2))))))) (EG f) (Ag _)
 cases t with
 |row r=>obtain⟨p,S,I,F⟩:=r;cases p with|false=>show w (Fg:=a) f.next ?r (EG f) (Ag _)|true=>show Ac (Ut (n:=n+1) (e:=a) (r:=⟨true,S,I,F⟩) B rfl E At ?r L C G) λFg p=>w (f.next+2) (AI (AC:=a) (T:=f) ?r p) (RP _ _ _) (A2 _ _)
 |imp b r=>have N:AD (AN T3 (n+1)) (.and [.cmp .eq (.idx (.var 33) (.int 0)) (.str "imp"),.cmp .ne (.var 8) (.idx (.var 33) (.int 1)),.cmp .eq (.idx (.var 34) (.idx (.var 33) (.int 1))) (.int 1)]) a f=some (.bool (true&&(!(x:Int)==(b:Int)&&Ak K b==1)),f):=and_3 ?r (λT=>Aq (AH C) (D (i:=1) rfl rfl) ?r) λT h=>Aq (E.get L (D (i:=1) rfl rfl) (G b (Bx _ AR) (by intro p;rw[p]at h;simp at h))) ?r ?r;rw[Bool.true_and]at N;show(?_:Rn (n+2) 110 [IP b r,.int x,.ref k] f (EZ (if !(x:Int)==(b:Int)&&Ak K b==1 then F8 (Ak K) r x else none)));cases y:!(x:Int)==(b:Int)&&Ak K b==1 with|false=>rw[y]at N;show w f.next (AI (AC:=a) (T:=f) (Bq N ?r ?r) ?r) (EG f) (Ag _)|true=>replace N:=y▸N;show Ac (Ut (n:=n+1) (e:=upd a 33 r.toV) B.1 B.2 E At ?r L C λA s=>G A (CZ _ s)) λFg p=>w (f.next+2) (AI (AC:=upd a 33 r.toV) (T:=f) (BS N ?r (AI (Az (D (i:=2) rfl rfl) ?r) ?r)) p) (RP _ _ _) (A2 _ _)
 |EX b r=>have Q:AD (AN T3 (n+1)) (.cmp .eq (.var 8) (.idx (.var 33) (.int 1))) a f=some (.bool ((x:Int)==(b:Int)),f):=Aq (AH C) (D (i:=1) rfl rfl) ?r;have skip:∀H,Ao (AN T3 (n+1)) (HO.body.drop 2) a f=some H->Ao (AN T3 (n+1)) HO.body a f=some H:=λH h=>AI (AC:=a) (T:=f) ?r (AI (AC:=a) (T:=f) ?r h);show(?_:Rn (n+2) 110 [OH b r,.int x,.ref k] f (EZ (if(x:Int)==(b:Int)then some (Bu (B2 (Ak K) r))else none)));cases y:(x:Int)==(b:Int)with|false=>replace Q:=y▸Q;show w f.next (skip _ (Ap (BS (x:=.bool true) ?r ?r (Ap (BL (Fz Q ?r ?r)))))) (EG f) (Ag _)|true=>replace Q:=y▸Q;have Db:x=b:=Ec (A5.mp y);show w (f.next+1) (skip _ (Ap (BS (x:=.bool true) ?r ?r (Ap (BL (E6 Q ?r (Bk (AL (BI (AL (D (i:=2) rfl rfl) (AL (AH L) ?r)) (M9 (n:=n) B.1 E At λA s=>G A (CZ _ s) λp=>B.2 (Db▸p▸s))) ?r) ?r))))))) (by delta St.pop St.bump;congr 1;funext m;show ite_self _) (A1 _)
 |clause u Y=>have skip:∀H,Ao (AN T3 (n+1)) (HO.body.drop 3) a f=some H->Ao (AN T3 (n+1)) HO.body a f=some H:=λH h=>AI (AC:=a) (T:=f) ?r (AI (AC:=a) (T:=f) ?r (AI (AC:=a) (T:=f) ?r h));have P:=Ti (P:=AN T3 (n+1)) (A:=x) E L C (D (i:=1) rfl rfl) (u:=u) (λA s=>G A (CZ _ s)) (GU (F5 B.1));have R:=Ti (P:=AN T3 (n+1)) (A:=x) E L C (D (i:=2) rfl rfl) (u:=Y) (λA s=>G A (Bx _ s)) (GU (F5 B.2.1));have j:=IH (Aq (c:=.isin) (a:=.int 1) ?r P (Nx (L7 _))) (Aq (c:=.isin) (a:=.int 0) ?r R (Nx (L7 _)));have c:AD (AN T3 (n+1)) (.cmp .isin (.var 8) (.idx (.var 33) (.int 1))) a f=some (.bool (u.any λ(A:Nat)=>(A:Int)==(x:Int)),f):=Aq (AH C) (D (i:=1) rfl rfl) (show Dl (.int x) (u.map λ(A:Nat)=>V.int A)=_ from L7 u);show(?_:Rn (n+2) 110 [LX u Y,.int x,.ref k] f (EZ (if((u.filter λ(A:Nat)=>!(A:Int)==(x:Int)).any λA=>Ak K A==1)||(Y.filter λ(A:Nat)=>!(A:Int)==(x:Int)).any λA=>Ak K A==0 then none else some (if u.any λ(A:Nat)=>(A:Int)==(x:Int)then 1 else 0))));cases y:((u.filter λ(A:Nat)=>!(A:Int)==(x:Int)).any λA=>Ak K A==1)||(Y.filter λ(A:Nat)=>!(A:Int)==(x:Int)).any λA=>Ak K A==0 with|true=>rw[y]at j;show w f.next (skip _ (Ap (BS (x:=.bool true) ?r ?r (Ap (BS j ?r ?r))))) (EG f) (Ag _)|false=>rw[y]at j;show w f.next (skip _ (Ap (BS (x:=.bool true) ?r ?r (AI (AC:=a) (T:=f) (Bq j ?r ?r) (Ap (BL (?_:AD (AN T3 (n+1)) _ a f=some (EZ (some (if u.any λ(A:Nat)=>(A:Int)==(x:Int)then 1 else 0)),f)))))))) (EG f) (Ag _);cases O:u.any λ(A:Nat)=>(A:Int)==(x:Int)with|true=>rw[O]at c;show E6 c ?r ?r|false=>rw[O]at c;show Fz c ?r ?r
 |or I z=>show d rfl (λr h=>AI (AC:=a) (T:=f) ?r (AI (AC:=a) (T:=f) ?r (AI (AC:=a) (T:=f) ?r (AI (AC:=a) (T:=f) ?r h)))) ?r ?r|and I z=>show d rfl (λr h=>AI (AC:=a) (T:=f) ?r (AI (AC:=a) (T:=f) ?r (AI (AC:=a) (T:=f) ?r (AI (AC:=a) (T:=f) ?r h)))) ?r ?r|eof i Ev z=>show d rfl (λr h=>AI (AC:=a) (T:=f) ?r (AI (AC:=a) (T:=f) ?r (AI (AC:=a) (T:=f) ?r (AI (AC:=a) (T:=f) ?r h)))) ?r ?r|Di i I z=>show d rfl (λr h=>AI (AC:=a) (T:=f) ?r (AI (AC:=a) (T:=f) ?r (AI (AC:=a) (T:=f) ?r (AI (AC:=a) (T:=f) ?r h)))) ?r ?r
def Z9(s:Tok t)(j:Eu K k f)(N:k<f.next)(a:∀A∈CJ t,A∈keys K):Rn (n+2) 111 [t.toV,.ref k] f (.bool (E7 (Ak K) t)):=by
 let B:Env:=upd (upd (λW=>none) 34 (.ref k)) 33 t.toV;have y:∀{v:V}{e:Env}{c:St}(q:Nat),Ao _ Mm.body B f=some (.ret v,e,c)->f.pop c=⟨f.objs,q⟩->f.next<=q->Rn (n+2) 111 [t.toV,.ref k] f v:=λ{v e c}q h M O=>by have:=DR (B:=T3) (n:=n+1) (w:=111) (D:=[t.toV,.ref k]) ?r ?r h;show⟨q,O,J this (J M rfl)⟩
 have Y:f.pop f.bump=⟨f.objs,f.next+1⟩:=by delta St.pop St.bump;congr 1;funext m;show ite_self _
 have C:B 34=some (.ref k):=by rfl
 have Q:∀{E:List V}{i:Nat}{v:V},t.toV=.tup E->_->AD (AN T3 (n+1)) (.idx (.var 33) (.int i)) B f=some (v,f):=λI h=>BM (AH (AE some I)) ?r (Gg h);have H:∀(L),(∀r,Ao (AN T3 (n+1)) (Mm.body.drop 4) B f=some r->_=some r)->_->Rn (n+2) 111 [t.toV,.ref k] f (.bool (match D2 (Ak K) t with|none=>false|some i=>Ak K (tz t)==i)):=λL T o=>by show AV (Oc s L) λx G=>y _ (T _ (Ap (BL (Aq (j.get C o (a _ G)) (BI rfl (TQ s L j λA p=>a A (x A p).1)) ?_)))) (EG f) (Ag _);cases D2 (Ak K) t<;>rfl
 cases t with
 |row r=>obtain⟨I,P,E,F⟩:=r;have D:=M9 (n:=n) s j N a;show y _ (Ap (BS (x:=.bool true) ?_ ?r (Ap (BL (BI rfl D))))) Y (A1 _);clear s a;cases I<;>rfl|EX b r=>have D:=M9 (n:=n) (r:=r) s.1 j N λA p=>a A (CZ _ p);show y _ (AI ?r (Ap (BS (x:=.bool true) ?r ?r (Ap (BL (Aq (j.get C rfl (a b (Bx _ AR))) (Bk (AL (BI rfl D) ?r) ?r) ?r)))))) Y (A1 _)|imp b r=>have w:AD _ (.cmp .eq _ (.int 0)) B f=_:=Aq (j.get C (Q (i:=1) rfl rfl) (a b (Bx _ AR))) ?r ?r;have skip:∀d,_->Ao (AN T3 (n+1)) Mm.body B f=some d:=λd h=>AI ?r (AI ?r h);show(?_:Rn (n+2) 111 _ f (.bool (_||_)));cases G:Ak K b==0 with|true=>replace w:=G▸w;show y _ (skip _ (Ap (BS (x:=.bool true) ?r ?r (Ap (BL (NQ (RC w ?r))))))) (EG f) (Ag _)|false=>rw[G]at w;have D:=M9 (n:=n) s.1 j N λA p=>a A (CZ _ p);show y _ (skip _ (Ap (BS (x:=.bool true) ?r ?r (Ap (BL (NQ (RB w ?r (BI rfl D)))))))) Y (A1 _)
 |clause u R=>have g:=NH j C (Q (i:=1) rfl rfl) (λA p=>a A (CZ _ p)) (GU (F5 s.1));have l:=NH j C (Q (i:=2) rfl rfl) (λA p=>a A (Bx _ p)) (GU (F5 s.2.1));have w:=IH (Aq (a:=.int 1) ?r g (Nx (L7 _))) (Aq (a:=.int 0) ?r l (Nx (L7 _)));show y f.next (AI ?r (AI ?r (AI ?r (Ap (BS (x:=.bool true) ?r ?r (Ap (BL w))))))) (EG f) (Ag _)|or E z=>show H rfl (λr h=>AI ?r (AI ?r (AI ?r (AI ?r h)))) ?r|and E z=>show H rfl (λr h=>AI ?r (AI ?r (AI ?r (AI ?r h)))) ?r|eof i S z=>show H rfl (λr h=>AI ?r (AI ?r (AI ?r (AI ?r h)))) ?r|Di i E z=>show H rfl (λr h=>AI ?r (AI ?r (AI ?r (AI ?r h)))) ?r
end
end
mutual
open A
def GS.kd(g:GS)(k:Nat)(K:List (Nat×Int))(ep m:Nat):GS:=(g.lay k (.dict (encD K) ep)).at m
structure An(g:GS)(ts:List Told)(v:Nat->Int):Prop where
 BD:∀t∈ts,E7 v t=true
 FV:∀x,x<g.vars.length->E8 (v x) (Ad g x)
structure I4(g:GS)(ts:List Told)(K0:List (Nat×Int))(v:Nat->Int):Prop where
 s:An g ts v
 k:∀x∈keys K0,v x=Ak K0 x
structure GK(g:GS)(ts:List Told)(K0 K:List (Nat×Int)):Prop where
 nd:(keys K).Nodup
 lt:∀x∈keys K,x<g.vars.length
 ex:∀x∈keys K0,x∈keys K/\Ak K x=Ak K0 x
 ag:∀v,I4 g ts K0 v->∀x∈keys K,Ak K x=v x
end
section
mutual
open A
variable{n O M c m k j b ep:Nat}{g X:GS}{f T o l:St}{P:Pg}{e AC:Env}{K a:List (Nat×Int)}{x:Nat}{d:List Told}
def OX(X:GS)(m):U (X.at m)=⟨(U X).objs,m⟩:=by congr 1
def ea:⟨(U (g.kd k K ep m)).objs,q⟩=U (g.kd k K ep q):=by unfold GS.kd;rw[OX,OX]
def IQ(h:Ax g k):Eu K k (U (g.kd k K ep m))/\(U (g.kd k K ep m)).objs k=some (.dict (encD K) ep):=by
 have:(U (g.kd k K ep m)).objs k=some (.dict (encD K) ep):=by unfold GS.kd;show Gh h
 show⟨⟨⟨ep,this⟩⟩,this⟩
def VX(h:Ax g k):(U (g.kd k K ep m)).set k (.dict (encD p) i)=U (g.kd k p i m):=by unfold GS.kd;(rewrite[OX,OX];show Mine.AU (L1 h (o:=.dict (encD K) ep) (I:=.dict _ i)) ?_);rfl
def get_none(x):∀I:_,x∉keys I->DA (encD I) (.num x)=none:=by intro I;induction I with|nil=>intro s;show rfl|cons p i r=>intro h;(show J (by
    unfold DA encD;show J Fq (J List.find?_cons ?_);by_cases h:p.1=x;·show J (AG h) ?_;show J (BC (J h rfl)) ?_;rfl
    ·show J (AF h) ?_;(show J (Bz (by show J Q9 ?_;show h)) ?_;rfl):DA (encD (p::i)) (.num x)=if p.1=x then some (.int p.2)else DA (encD i) (.num x)) ?_;show J (AF λq=>h (by show Mine.AU q ?_;show AR)) ?_);show r λq=>h (Ah _ q)
def Vz(h:Eu K k f):BZ f .FE (.int x) (.ref k)=some !decide (x∈keys K):=by
 show Ac h.ob λep p=>(AE (Option.map _) (b1 p rfl)).trans (?_:some (!(DA _ _).isSome)=_);by_cases i:x∈keys K;·show J ((Ni x K).2 i) (J (BC i) rfl)
 ·show J (get_none x K i) (J (Bz i) rfl)
def Ve(A)(i):∀I:_,Ak (putD I x i) A=if A=x then i else Ak I A:=by
 intro I;induction I with|nil=>
  show(?_:(if x=A then i else 0)=_);by_cases h:A=x;·show J (AG h) (J (AG h.symm) rfl)
  ·show J (AF h) (J (AF (CE h)) rfl)|cons p t s=>
  show(?_:Ak (if p.1=x then _ else _) A=if A=x then i else if p.1=A then _ else _);by_cases h:p.1=x
  ·show J (AG h) (?_:(if p.1=A then i else _)=_);by_cases r:A=x;·show J (AG r) (J (AG (h.trans r.symm)) rfl)
   ·show J (AF r) (J (AF λq=>r (q.symm.trans h)) (J (AF λq=>r (q.symm.trans h)) rfl))
  ·show J (AF h) (?_:(if p.1=A then _ else _)=_);show J s ?_;by_cases r:A=x;·show J (AG r) (J (AG r) (J (AF λq=>h (q.trans r)) rfl))
   ·show J (AF r) (J (AF r) rfl)
def GK.put(h:GK g d a K)(w:x∉keys K)(C:x<g.vars.length)(B:∀v,I4 g d a v->v x=i):GK g d a (putD K x i)/\(putD K x i).length=K.length+1:=by
 have t:keys (putD K x i)=keys K++[x]:=by(rewrite[KX];show J (AF w) ?_;rfl)
 show⟨⟨V5 h.nd,λy r=>?_,λy r=>?_,λv u y r=>?_⟩,?_⟩
 ·rcases Qx r with q|q;·show h.lt y q
  ·show J q ?_;show C
 ·show AV (h.ex y r) λs z=>⟨J t (CZ _ s),?_⟩;(rewrite[Ve];show J (AF λ(p:y=x)=>w (p▸s)) ?_;show J z ?_;rfl)
 ·rw[Ve];by_cases p:y=x;·show J (AG p) (J p (J (B v u) rfl))
  ·show J (AF p) (h.ag v u y ((Qx r).resolve_right p))
 ·have A:_=(keys (putD K x i)).length:=(Al ..).symm;show J A (J t (J Bp (?_:(K.map _).length+1=_)));rw[Al]
def hO(h:Nat):Ia 0 h=(List.range h).map λ(x:Nat)=>V.int x:=by show GP λi p=>?_;rw[Js]
def dI{r:Type}(u:List r):∀m,m<=u.length->(List.range m).filterMap (λi=>u[i]?)=u.take m:=by intro m;induction m with|zero=>intro s;show rfl|succ m p=>intro h;show J List.range_succ (J List.filterMap_append (J (p (Nat.le_of_succ_le h)) (J List.take_add_one (J (Cz h) ?_))));show(?_:_++(match u[m]? with|none=>[]|some q=>[q])=_);show J (Cz h) rfl
def Ww(u)(k:Nat):OP f none (some k) (.lst u)=some (.lst (u.take k)):=by
 show(?_:some (V.lst _)=_);congr 2;unfold MQ;rw[sliceBounds_plain];show(?_:(sliceRange (0:Nat) (clipAt _ _) 1).filterMap _=_);rw[clipAt_nat,sliceRange_one,Nat.sub_zero];have:(List.range (min k u.length)).map (λx=>0+x)=List.range (min k u.length):=by show J (show(λx=>_)=id from funext Nat.zero_add) ?_;rewrite[List.map_id];rfl
 show J this (J (dI u _ (Nat.min_le_right _ _)) ?_);by_cases h:k<=u.length;·show J (Nat.min_eq_left h) rfl
 ·show J (Nat.min_eq_right (BH (Nat.lt_of_not_le h))) (J (O' (Ag _)) (J (O' (BH (Nat.lt_of_not_le h))) rfl))
def Yn(x:Nat):∀(r:List _),Uc 6 (r.map λ(x:Nat)=>V.int x) (List.replicate r.length (V.int x))=some (r.all λA=>A==x):=by intro r;induction r with|nil=>show rfl|cons A r h=>
  show(?_:b2 (DH 6 (V.int A) (V.int x)) (Uc 6 _ _) _=_);show J h (?_:some _=_);have:(A==(x:Int))=(A==x):=by rw[Fh,A5,A5];show Int.ofNat_inj
  show J this rfl
def bO{H:BR}(h:H≠[])(s:e 46=some (C0 H)):AD P (.idx (.idx (.var 46) (.int 0)) (.int 0)) e f=some (.int (CF H),f)/\AD P (.idx (.idx (.var 46) (.neg (.int 1))) (.int 1)) e f=some (.int (CH H),f):=by cases H with|nil=>show absurd rfl h|_ p r=>show⟨BM (BM (AH s) ?r (Gg (x:=0) ?r)) ?r rfl,?_⟩;cases i:(p::r).getLast? with|none=>show absurd (List.getLast?_eq_none_iff.mp i) h|_ q=>show J (by unfold CH;(show J i ?_;rfl):CH (p::r)=q.2) ?_;show BM (BM (AH s) ?r (VE (by(show J List.getLast?_map ?_;show J i ?_);rfl))) ?r rfl
end
end
def quiet(K:List (Nat×Int))(t:Told):Prop:=∀x∈CJ t,x∉keys K->(∀y∈CJ t,y∉keys K->y=x)->EU (Ak K) x t=none
section
mutual
open A
variable{n O M s m k j o ep:Nat}{g X:GS}{f T z y:St}{P:Pg}{e AC:Env}{K c:List (Nat×Int)}{x:Nat}{d:List Told}{v b:Nat->Int}
def bT(h:∀A∈u,v A=b A):dot v a u=dot b a u:=by unfold dot;congr 1;show GP λp i=>J (h _ (HT i).2) rfl
def MP(h:∀A∈r.xs,v A=b A):B2 v r=B2 b r:=by unfold B2;(show J (bT h) ?_;rfl)
def Wf(h:∀A∈r.xs,A≠x->v A=b A):F8 v r x=F8 b r x:=by
 unfold F8;have:((r.cs.zip r.xs).filter λ(p:Int×Nat)=>!(p.2:Int)==(x:Int)).map (λ(p:Int×Nat)=>p.1*v p.2)=_:=GP λp q=>by show AV (C9.mp q) λa i=>?_;(show J (h _ (HT a).2 (by intro l;rw[l]at i;simp at i)) ?_;rfl)
 show J this rfl
def any_congr{B:List _}(h:∀A∈B,A≠x->v A=b A):(B.filter λ(A:Nat)=>! A==(x:Int)).any λA=>v A==i=(B.filter λ(A:Nat)=>!(A:Int)==x).any λA=>b A==i:=by
 rw[Fh,Ds,Ds];have p:∀A∈B.filter λ(A:Nat)=>!(A:Int)==(x:Int),_:=λA r=>by show AV (C9.mp r) λa l=>h A a (by intro p;rw[p]at l;simp at l)
 show⟨λq=>AJ q λA a l=>⟨A,a,Mine.AU (p A a) l⟩,λq=>AJ q λA a l=>⟨A,a,J (p A a) l⟩⟩
def XQ(q:Lw t=true)(h:∀A∈Rv t,v A=b A):D2 v t=D2 b t:=by cases t with|row=>show rfl|EX=>show rfl|imp=>show rfl|clause=>show rfl|or a l=>show(?_:(a.map v).max?=(a.map b).max?);(show J (GP (l:=a) h) ?_;rfl)|and a l=>show(?_:(a.map v).min?=(a.map b).min?);(show J (GP (l:=a) h) ?_;rfl)|eof i r l=>show(?_:(if 1<=v i/\v i<=_ then _ else _)=_);show J (h i AR) ?_;rfl|Di i a l=>
  show(?_:(if 1<=v i/\v i<=_ then _ else _)=if 1<=b i/\b i<=_ then _ else _);show J (h i AR) ?_;split;·cases p:a[(b i-1).toNat]? with|none=>rfl|some A=>show(?_:some _=some _);(show J (h A (Ah _ (Ms p))) ?_;rfl)
  ·rfl
def Us(C:Tok t)(h:∀A∈CJ t,A≠x->v A=b A):EU v x t=EU b x t:=by
 have w:∀(B),(if _==_ then D2 v t else _)=if _==_ then D2 b t else none:=λB=>by cases p:(x:Int)==_ with|false=>rfl|true=>show AV (Oc C B) λa G=>XQ B λA i=>h A (a A i).1 (J (Ec (A5.mp p)) (a A i).2)
 cases t with
 |row r=>show(?_:(if r.eq then _ else _)=if r.eq then _ else _);(show J (Wf h) ?_;rfl)|imp l r=>show(?_:(if _&&_ then _ else _)=if _&&_ then _ else _);show J (Wf λA i=>h A (CZ _ i)) ?_;cases p:_==(l:Int)with|true=>rfl|false=>(show J (h l (Bx _ AR) λE=>by rw[E]at p;simp at p) ?_;rfl)
 |EX l r=>show(?_:(if _==(l:Int)then _ else _)=if _==(l:Int)then _ else _);cases p:_==(l:Int)with|false=>rfl|true=>show J (MP λA i=>h A (CZ _ i) λq=>C.2 (Ec (A5.mp p)▸q▸i)) rfl
 |clause u D=>show(?_:(if((u.filter λ(A:Nat)=>!(A:Int)==(x:Int)).any λA=>v A==1)||(D.filter λ(A:Nat)=>!(A:Int)==(x:Int)).any λA=>v A==0 then none else _)=_);show J (any_congr λA i=>h A (CZ _ i)) (J (any_congr λA i=>h A (Bx _ i)) rfl)|or=>show w rfl|and=>show w rfl|eof=>show w rfl|Di=>show w rfl
def QT(E:Tok t)(h:∀A∈CJ t,v A=b A):E7 v t=E7 b t:=by
 have q:∀(w),match D2 v t with|none=>false|some i=>v (tz t)==i=_:=λw=>by show AV (Oc E w) λa l=>J (XQ w λA p=>h A (a A p).1) (J (h _ l) rfl)
 have C:∀{u:List _}{i},(∀A∈u,v A=b A)->u.any λA=>v A==i=u.any λA=>b A==i:=λ{u i}D=>by rw[Fh,Ds,Ds];show⟨λB=>AJ B λA a l=>⟨A,a,Mine.AU (D A a) l⟩,λB=>AJ B λA a l=>⟨A,a,J (D A a) l⟩⟩
 clear E;cases t with|row r=>show MP h|imp l r=>show(?_:(_||_)=(_||_));(show J (h l (Bx _ AR)) ?_;show J (MP λA p=>h A (CZ _ p)) ?_;rfl)|EX l r=>show(?_:(v l==_)=(b l==_));(show J (h l (Bx _ AR)) ?_;show J (MP λA p=>h A (CZ _ p)) ?_;rfl)|clause u G=>show(?_:(_||_)=(_||_));(show J (C λA p=>h A (CZ _ p)) ?_;show J (C λA p=>h A (Bx _ p)) ?_;rfl)|or=>show q rfl|and=>show q rfl|eof=>show q rfl|Di=>show q rfl
def ik(w:Int×Nat->Int)(q):∀l:List _,(l.map w).sum=((l.filter q).map w).sum+((l.filter λp=>!q p).map w).sum:=by intro l;induction l with|nil=>show rfl|cons p l a=>show J Fq (J List.sum_cons (J a (J GO (J GO ?_))));cases q p with|true=>(show J Fq ?_;show J List.sum_cons ?_);show(?_:_=_+((l.filter _).map w).sum);show by simp+arith|false=>(show J Fq ?_;show J List.sum_cons ?_);show(?_:_=((l.filter q).map w).sum+_);show by simp+arith 
def au(a):∀l:List (_×_),(∀p∈l,v p.2=a)->(l.map λp=>p.1*v p.2).sum=(l.map λp=>p.1).sum*a:=by intro l;induction l with|nil=>intro t;show(Int.zero_mul _).symm|cons p l i=>intro h;((show J Fq ?_;show J List.sum_cons ?_;show J Fq ?_;show J List.sum_cons ?_;show J (i λq r=>h q (Ah _ r)) ?_;show J (h p AR) ?_;rewrite[Int.add_mul];rfl))
def Wg(u:r.eq=true)(h:F8 v r x=some i)(a:B2 v r=true):v x=i:=by unfold B2 at a;rw[u]at a;have a:=A5.mp a;unfold dot at a;rw[ik _ λp=>p.2==(x:Int),au _ _ λp w=>by(show J (Ec (A5.mp (C9.mp w).2)) ?_;rfl)]at a;unfold F8 at h;dsimp only at h;generalize(((r.cs.zip r.xs).filter _).map λp=>p.1).sum=q at h a;generalize(((r.cs.zip r.xs).filter _).map λp=>p.1*_).sum=A at h a;cases l:_&&_ with|false=>replace h:=l▸h;show AS h|true=>rw[l]at h;have:r.c-A=q*_:=Gx (Aa (Cy a.symm) (by simp+arith)) (Aa (Cy a) (by simp+arith));rw[this,Int.mul_fdiv_cancel_left _ λt=>by rw[t]at l;show AX l]at h;show AP h
def dR(At:Tok t)(h:EU v x t=some i)(a:E7 v t=true)(Ch:x∈CJ t):v x=i:=by
 have E:∀(e:Lw t=true),(if _==(tz t:Int)then D2 v t else _)=some i->(match D2 v t with|none=>false|some i=>_)=true->v x=i:=λe D H=>by cases p:(x:Int)==_ with|false=>rw[p]at D;show AS D|true=>rw[p]at D;have D:D2 v t=_:=D;replace H:=D▸H;show J (Ec (A5.mp p)) (A5.mp H)
 clear Ch;cases t with
 |row r=>change(if r.eq then _ else _)=_ at h;cases I:r.eq with|false=>rw[I]at h;show AS h|true=>rw[I]at h;show Wg I h a
 |imp d r=>change(if _ then _ else _)=_ at h;cases C:_&&_ with|false=>rw[C]at h;show AS h|true=>rw[C]at h;change(_||_)=_ at a;rw[A5.mp ((Ct _ _).mp C).2]at a;show Wg At.2 h a
 |EX d r=>change(if _ then _ else _)=_ at h;cases p:(x:Int)==_ with|false=>rw[p]at h;show AS h|true=>rw[p]at h;show J (Ec (A5.mp p)) (Mine.AU (AP h) (A5.mp a))
 |clause u f=>change(if _ then _ else _)=_ at h;cases C:_||_ with|true=>rw[C]at h;show AS h|false=>
   rw[C]at h;show AV (Bool.or_eq_false_iff.mp C) λY c=>?_;have only:∀{l:List _}{B}{q},(l.filter λB=>! _==_).any λB=>v B==q=_->_->v B=q->B=x:=λ{l B q}Q N G=>by cases p:(B:Int)==(x:Int)with|true=>show Ec (A5.mp p)|false=>rw[List.any_eq_false]at Q;show absurd (J G (EN _)) (Q B (C9.mpr ⟨N,J p rfl⟩))
   show J (AP h).symm ?_;cases L:u.any _ with|true=>
    show AJ (Ds.mp L) λB N G=>?_;rcases(H3 _ _).mp a with q|q;·show AJ (Ds.mp q) λb A w=>?_;show Mine.AU (only Y A (A5.mp w)) ?_;show A5.mp w
    ·show AJ (Ds.mp q) λb A w=>?_;have:=only c A (A5.mp w);show absurd A (At.2.2 b (J this (Mine.AU (Ec (A5.mp G)) N)))|false=>
    rcases(H3 _ _).mp a with q|q;·show AJ (Ds.mp q) λb A w=>?_;have:=only Y A (A5.mp w);rw[List.any_eq_false]at L;show absurd (J this (EN _)) (L b A)
    ·show AJ (Ds.mp q) λb A w=>?_;show Mine.AU (only c A (A5.mp w)) ?_;show A5.mp w
 |or=>show E rfl h a|and=>show E rfl h a|eof=>show E rfl h a|Di=>show E rfl h a
def WR:∀(n)(u:List _),u.Nodup->(∀x∈u,x<n)->u.length<=n:=by intro n;induction n with
 |zero=>intro u B h;cases u with|nil=>show Ag _|cons a r=>show absurd (h a AR) (HW _)
 |succ n q=>
  intro u l h;by_cases t:n∈u
  ·have:=q _ (l.erase n) λp i=>by have w:=(l.mem_erase_iff).mp i;show Nat.lt_of_le_of_ne (G3 (h p w.2)) w.1
   replace this:=List.length_erase_of_mem t▸this;show Nat.le_add_of_sub_le this
  ·show LF (q u l λp i=>by show Nat.lt_of_le_of_ne (G3 (h p i)) λA=>t (A▸i))
def GK.len(h:GK g d c K):K.length<=g.vars.length:=by have:=WR _ _ h.nd h.lt;unfold keys at this;rw[Al]at this;show this
end
end
structure Im(g:GS)(ts:List Told)(k:Nat):Prop where
 pn:g.part=none
 low:Ax g k
 Ig:g.BD=ts.map Told.toV
 tok:∀t∈ts,Tok t/\∀x∈CJ t,x<g.vars.length
 FU:∀x,x<g.vars.length->GH 1000000 (Ad g x)
 bS:∀x,x<g.vars.length->(Ad g x).length<lim
 l1:g.vars.length<1000000
 l2:ts.length<1000000
section
mutual
open A
variable{n O M o m k j l ep:Nat}{g X:GS}{f T q p:St}{P:Pg}{e AC:Env}{K c:List (Nat×Int)}{x:Nat}{d:List Told}{v b:Nat->Int}
def UL{a:ME}{v:V}(h:AD P a e f=some (v,T)):AD P (.KZ a) e f=some (.bool !DB v,T):=b1 h rfl
def hS(a:V):∀n:_,(List.replicate n [a]).flatten=List.replicate n a:=by intro n;induction n with|zero=>show rfl|succ n h=>((show J List.replicate_succ ?_;show J List.flatten_cons ?_;show J h ?_);rfl)
def mulL{k:Int}(h:0<=k/\k<lim/\u.length*k.toNat<lim):Cc f .mul (.lst u) (.int k)=some (.lst (List.replicate k.toNat u).flatten):=AG h
def h9(h:(x::r).length<lim)(a:e 66=some (.lst ((x::r).map λ(x:Nat)=>V.int x))):AD P (.cmp .eq (.var 66) (.bin .mul (.slice (.var 66) (.int 1)) (.bi .len [.var 66]))) e f=some (.bool ((x::r).all λA=>A==x),f):=by
 have i:((x::r).map λ(x:Nat)=>V.int x).length=_:=Al ..;show Aq (AH a) (BA (x:=.lst [V.int x]) (v:=.lst (List.replicate (x::r).length (V.int x))) (b1 (AH a) (b1 ?r (b1 ?r (m1 (Ww _ 1) ?r)))) (Bk (AL (AH a) ?r) (by show(?_:some _=_);(show J i ?_;rfl))) ?_) ?_;·show Eq.trans (mulL ⟨Co _,JK h,by(show J Iz ?_;rewrite[Nat.one_mul]);show h⟩) ?_;rw[Int.toNat_natCast,hS]
 ·show(?_:(if((x::r).map λ(x:Nat)=>V.int x).length=_ then _ else _)=_);show J (AG (J i (J List.length_replicate rfl))) (Yn x _)
def SA:List MS:=match It.body.getD 3 .fail with|.while _ a=>a|_=>[]
def VK:List MS:=match SA.getD 1 .fail with|.for _ _ a=>a|_=>[]
def jl{t:Told}(N:Im g d k)(Ev:t∈d)(G:GK g d c K)(EQ:k<m)(Db:e 33=some t.toV)(Do:e 34=some (.ref k))(w:Bool)(Fa:e 38=some (.bool w)){At:Prop}(FM:∀Q NE IN Ch FS,Ao (AN T3 (n+2)) VK e (U (g.kd k K ep m))=some (.next,FS,U (g.kd k Q NE IN))->GK g d c Q->m<=IN->FS 38=some (.bool Ch)->(∀i,i≠66->i≠6->i≠38->FS i=e i)->Ch=w/\Q=K/\quiet K t\/(Ch=true/\Q.length=K.length+1/\∀A∈keys K,A∈keys Q)->At):At:=by
 show AV (N.tok t Ev) λs Z=>AV (IQ (K:=K) (ep:=ep) (m:=m) N.low) λH1 TW=>?_;let l:=(CJ t).filter λx=>!decide (x∈keys K);have O:∀A,A∈l↔A∈CJ t/\A∉keys K:=λA=>by rw[C9,Jm,decide_eq_false_iff_not]
 have Fs:(CJ t).length<lim:=Br (by clear Ev Db Z;cases t with|row r=>have:=s.s;show(?_:r.xs.length<_);show AZ this (Ay _ _)|EX M2 r=>have:=s.1.s;(show J Bp ?_;show J Iz ?_);show Ex (AZ this (Ay _ _))|imp M2 r=>have:=s.1.s;(show J Bp ?_;show J Iz ?_);show Ex (AZ this (Ay _ _))|clause u W=>have a:u.length<1000:=s.1;have Y:W.length<1000:=s.2.1;show(?_:(u++W).length<_);show J Bp ?_;show lf Y (lf a (by simp+arith))|or I z=>have a:I.length<1000:=s.1;show(?_:(I++[z]).length<_);(show J Bp ?_;show J Iz ?_);show Ex (AZ a (Ay _ _))|and I z=>have a:I.length<1000:=s.1;show(?_:(I++[z]).length<_);(show J Bp ?_;show J Iz ?_);show Ex (AZ a (Ay _ _))|eof i Tk z=>show(?_:2<3000);decide|Di i I z=>have a:I.length<1000:=s.1;show J Bp ?_;show(?_:2+_<_);show lf a (by simp+arith):(CJ t).length<3000) (by decide);let AC:Env:=upd e 66 (.lst (l.map λ(x:Nat)=>V.int x));have R:A8 (AN T3 (n+2)) (.assign (.pt (.nm 66)) (.comp (.var 8) [.mk (.nm 8) (.val (.call 108 [.var 33])) [.cmp .FE (.var 8) (.var 34)]] [8,115])) e (U (g.kd k K ep m))=some (.next,AC,U (g.kd k K ep m)):=Az (Ge (d:=CJ t) (F:=λ(x:Nat)=>V.int x) (E:=λ(x:Nat)=>V.int x) (t:=λx=>!decide (x∈keys K)) (EC (BI (AL (AH Db) ?r) (aN (n:=n+1) s)) ?r) (λx o=>⟨_,_,by rfl,Aq (AH ?r) (AH (show(upd (clear e [8,115]) 8 (.int x)) 34=_ from Do)) (Vz H1),by rfl,λo=>AH ?r⟩) Fs) ?r;have Fk:l.length<lim:=Ai (H9 _ _) Fs;have C:AC 66=some (.lst (l.map λ(x:Nat)=>V.int x)):=by rfl
 have Ix:quiet K t->A8 (AN T3 (n+2)) (.ite (.and [.cmp .ne (.var 66) (.lst []),.cmp .eq (.var 66) (.bin .mul (.slice (.var 66) (.int 1)) (.bi .len [.var 66]))]) [.assign (.pt (.nm 6)) (.call 110 [.var 33,.idx (.var 66) (.int 0),.var 34]),.ite (.KZ (.var 6)) [.assign (.tup [.sub (.var 34) (.idx (.var 66) (.int 0)),.pt (.nm 38)]) (.tup [.var 6,.bool true])] []] []) AC (U (g.kd k K ep m))=some (.next,AC,U (g.kd k K ep m))->At:=λB h=>FM K ep m w AC (AI R (AI h ?r)) G (Ag _) Fa (λi a o o=>AF a) (.inl ⟨rfl,rfl,B⟩);cases L:l with|nil=>replace C:=L▸C;show Ix (λx Ps D o=>?_) (Bq (KC (I7 (Aq (AH C) ?r ?r) ?r)) ?r ?r);have:=(O x).mpr ⟨Ps,D⟩;replace this:=L▸this;cases this|cons x r=>rw[L]at C Fk;show AV ((O x).mp (J L AR)) λF P=>?_;have H:=IF (a:=.cmp .ne (.var 66) (.lst [])) (Aq (P:=AN T3 (n+2)) (f:=U (g.kd k K ep m)) (c:=.ne) (b:=.lst []) (AH C) ?r N5) (h9 (P:=AN T3 (n+2)) Fk C);have On:(!((x::r).map λ(x:Nat)=>V.int x).isEmpty)=true:=rfl;rw[On,Bool.true_and]at H;cases T:(x::r).all λA=>A==x with
  |false=>
   rw[T]at H;show Ix (λA E D j=>?_) (Bq H ?r ?r);exfalso;have Re:x=A:=j x F P;have:(x::r).all λA=>A==x=true:=DD.mpr λb Op=>by show AV ((O b).mp (J L Op)) λSc TE=>J (j b Sc TE) (J Re (EN _))
   rw[T]at this;show AX this|true=>
   replace H:=T▸H;have j:∀A∈CJ t,A≠x->A∈keys K:=λA E D=>HM λEQ=>by have:=(O A).mpr ⟨E,EQ⟩;rw[L]at this;show D (A5.mp (DD.mp T A this))
   show AJ (Z6 (n:=n) (x:=x) s H1 (show k<m from EQ) j) λB M X=>?_;rw[ea]at X;have Go:∀{f:St}{e:Env},e 66=some (.lst ((x::r).map λ(x:Nat)=>V.int x))->AD (AN T3 (n+2)) (.idx (.var 66) (.int 0)) e f=some (.int x,f):=λh=>BM (AH h) ?r (KQ (x:=0) ?r);let y:Env:=upd AC 6 (EZ (EU (Ak K) x t));have s2:A8 (AN T3 (n+2)) (.assign (.pt (.nm 6)) (.call 110 [.var 33,.idx (.var 66) (.int 0),.var 34])) AC (U (g.kd k K ep m))=some (.next,y,U (g.kd k K ep B)):=Az (BI (AL (AH (show AC 33=_ from Db)) (AL (Go C) (AL (AH (show AC 34=_ from Do)) ?r))) X) ?r;have M:m<=B:=M;cases q:EU (Ak K) x t with|none=>have p:y 6=some .none:=(J q rfl:some (EZ (EU (Ak K) x t))=_);show FM K ep B w y (AI R (AI (AC:=y) (T:=U (g.kd k K ep B)) (BS H ?r (AI s2 (AI (AC:=y) (T:=U (g.kd k K ep B)) (Bq (UL (AH p)) ?r ?r) ?r))) ?r)) G M Fa (λi a Y o=>(AF Y).trans (AF a)) (.inl ⟨rfl,rfl,λA E D No=>?_⟩);show Mine.AU (No x F P) ?_;show q|some i=>have p:y 6=some (.int i):=(J q rfl:some (EZ (EU (Ak K) x t))=_);(show AV (G.put P (Z x F) (i:=i) λv Gc=>by show dR s (Mine.AU q ?_) (Gc.s.BD t Ev) F;show Us s λA E D=>(G.ag v Gc A (j A E D)).symm) λJP Ok=>?_);have Rs:=(IQ (K:=K) (ep:=ep) (m:=B) N.low).2;let S:Env:=upd y 38 (.bool true);have st:Gl (AN T3 (n+2)) (.tup [_,.pt (.nm 38)]) (.tup [.int i,.bool true]) y (U (g.kd k K ep B))=_:=Rb (Kl (AC:=y) (Kg (AH (show y 34=_ from Do)) (Go (show y 66=_ from C)) ((Rd Rs (by unfold encD;rw[Al];show Ai G.len N.l1)).trans (by(rewrite[OF];show J (VX N.low) ?_;rfl)))) ?r);show FM (putD K x i) (ep+1) B true S (AI R (AI (AC:=S) (BS H ?r (AI s2 (AI (AC:=S) (BS (UL (AH p)) ?r (AI (Az (CI (AL (AH p) ?r)) st) ?r)) ?r))) ?r)) JP M ?r (λi a Y h3=>(AF h3).trans ((AF Y).trans (AF a))) (.inr ⟨rfl,Ok,λA E=>by(rewrite[KX];show J (AF P) ?_);show CZ _ E⟩)
end
end
section
mutual
open A
variable{n O M c m k j b ep:Nat}{g X:GS}{f T p h:St}{P:Pg}{e AC:Env}{K a:List (Nat×Int)}{x:Nat}{d:List Told}{v o:Nat->Int}
def pass(Ch:Im g d k):∀(l:List _)(K)(ep m)(e)(w),(∀t∈l,t∈d)->GK g d a K->k<m->e 34=some (.ref k)->e 38=some (.bool w)->∀{D:Prop},(∀z Db At E N,Cw (λx e f=>(BP (.nm 33) x e).bind λe=>Ao (AN T3 (n+2)) VK e f) (some (4,.list g.BD)) (l.map Told.toV) e (U (g.kd k K ep m))=some (.next,N,U (g.kd k z Db At))->GK g d a z->m<=At->N 38=some (.bool E)->(∀i,i≠33->i≠66->i≠6->i≠38->N i=e i)->K.length<=z.length->(∀A∈keys K,A∈keys z)->(E=w/\z=K/\∀t∈l,quiet K t)\/E=true/\K.length<z.length->D)->D:=by intro l;induction l with|nil=>intro K ep m e w y G y y H;showλL=>L K ep m w e rfl G (Ag _) H (λy y y y y=>rfl) (Ag _) (λy s=>s) (.inl ⟨rfl,rfl,CP _⟩)|cons t l T=>
  intro K ep m e w C G h b H D;intro L;show jl (e:=upd e 33 _) Ch (C t AR) G h ?r b w H λF V m1 X AC R M o EQ p I=>T F V m1 AC X (λu s=>C u (Ah _ s)) M (AZ h o) ((p 34 (by decide) (by decide) (by decide)).trans b) EQ λP W Fk Z Gc S O FM Ev FS j v c=>L P W Fk Z Gc (b1 (b1 ?r R) ?_) O (AQ o FM) Ev (λi B r Q Y=>(FS i B r Q Y).trans ((p i r Q Y).trans (AF B))) ?_ ?_ ?_;·dsimp only;show J (AG rfl) S
  ·rcases I with⟨_,rfl,_⟩|⟨_,s,_⟩<;>(first|lia|omega(splitMinMax:=true))
  ·rcases I with⟨_,rfl,_⟩|⟨_,_,s⟩;·show v
   ·showλA Fa=>v A (s A Fa)
  ·rcases I with⟨B,rfl,q⟩|⟨B,s,_⟩
   ·clear j;rcases c with⟨r,rfl,Fs⟩|⟨r,Do⟩;·show .inl ⟨r.trans B,rfl,λu C=>?_⟩;show mc C q λC=>Fs u C
    ·show .inr ⟨r,Do⟩
   ·show .inr ⟨?_,AZ (AY s.symm) j⟩;rcases c with⟨r,_,_⟩|⟨r,_⟩;·show J r B
    ·show r
def kD(A:Im g d k):∀(l)(K)(ep m)(e),g.vars.length+2<=l+K.length->GK g d a K->k<m->e 34=some (.ref k)->e 36=some (.ref 2)->e 38=some (.bool true)->∀{s:Prop},(∀r Db At Ch,Ih (λe f=>MX (AN T3 (n+2)) (.var 38) e f) (λe f=>Ao (AN T3 (n+2)) SA e f) l e (U (g.kd k K ep m))=some (.next,Ch,U (g.kd k r Db At))->GK g d a r->m<=At->(∀t∈d,quiet r t)->(∀i,i≠33->i≠66->i≠6->i≠38->Ch i=e i)->K.length<=r.length->(∀x∈keys K,x∈keys r)->s)->s:=by intro l;induction l with|zero=>intro K ep m e C G E E E E s;showλL=>Vu C (De _) G.len|succ l N=>
  intro K ep m e C G p h j V s;intro L;show pass (n:=n) A d K ep m (upd e 38 _) false (λE S=>S) G p h ?r λQ b m1 Fk AC B O H o D X M W=>?_;replace B:=BX A.Ig▸B;have Y:Ao _ SA e _=_:=AI (AC:=upd e 38 _) ?r (AI (Ea (F2 (IG (AH j) ?r ?r) ?r) B) ?r);have c:MX (AN T3 (n+2)) _ e _=some (_,U (g.kd k K ep m)):=b1 (AH V) ?r;clear X B;rcases W with⟨rfl,rfl,I⟩|⟨rfl,v⟩;·clear N;cases l with|zero=>show Vu C (Ag _) G.len|_ l=>show L Q b m1 AC (b1 c (b1 Y (b1 (b1 (AH o) ?r) ?r))) G H I (λi u w z q=>(D i u w z q).trans (AF q)) (Ag _) M
  ·show N Q b m1 AC (lf v (lf C (by simp+arith))) O (AZ p H) ((D 34 (by decide) (by decide) (by decide) (by decide)).trans h) ((D 36 (by decide) (by decide) (by decide) (by decide)).trans j) o λF R FS Fa P T Do I EQ Z Ev=>L F R FS Fa (b1 c (b1 Y P)) T (AQ H Do) I (λi u w z q=>(EQ i u w z q).trans ((D i u w z q).trans (AF q))) (AQ (BH v) Z) λy FM=>Ev y (M y FM) 
end
end
section
mutual
open A
variable{n O M z m k s y ep:Nat}{g X G:GS}{f T C A:St}{P:Pg}{e AC:Env}{K o:List (Nat×Int)}{x:Nat}{d:List Told}{v j:Nat->Int}
def bQ(h:GH D H)(r:CF H=CH H)(t:E8 i H):i=CF H:=B3 t λp u l q=>CW (h.2 p u) λa b c w=>Gx (Aa q (Aa c (Aa (Cy r.symm) (by simp+arith)))) (Aa a (Aa l (by simp+arith))) 
def iR(B:Im g d k):∀(u:List _)(K)(ep)(e),u.Nodup->(∀x∈u,x∉keys K/\x<g.vars.length)->GK g d o K->k<m->e 34=some (.ref k)->e 36=some (.ref 2)->∀{Q:Prop},(∀l q p,Cw (λx e f=>(BP (.nm 8) x e).bind λe=>Ao (AN T3 (n+2)) (ES It 1) e f) none (u.map λ(x:Nat)=>V.int x) e (U (g.kd k K ep m))=some (.next,p,U (g.kd k l q m))->GK g d o l->(∀x∈u,CF (Ad g x)=CH (Ad g x)->x∈keys l)->(∀x∈keys K,x∈keys l)->(∀i,i≠8->i≠46->p i=e i)->Q)->Q:=by intro u;induction u with|nil=>intro K ep e c c G c c c;showλI=>I K ep e rfl G (CP _) (λc h=>h) λc c c=>rfl|cons x u O=>intro K ep e Z E G F j s Q;intro I;show AV (DO.mp Z) λAt P=>AV (E x AR) λR A=>?_;have y:=B.FU x A;let AC:=upd (upd e 8 (.int x)) 46 (C0 (Ad g x));have S:A8 (AN T3 (n+2)) (.assign (.pt (.nm 46)) (.Af (.var 36) 3 [.var 8])) (upd e 8 _) (U _)=some (_,AC,_):=Az (B5 (AH s) ?r ?r rfl (LU (g:=g.kd k K ep m) y.1)) ?r;show AV (bO (P:=AN T3 (n+2)) (f:=U (g.kd k K ep m)) (e:=AC) y.1 ?r) λT X=>?_;have H:=Aq (c:=.eq) T X ?r;cases w:_==CH _ with
  |false=>rw[w]at H;show O K ep AC P (λb a=>E b (Ah _ a)) G F j s λl q p Y N C L M=>I l q p (Ko (b1 ?r (AI S (AI (Bq H ?r ?r) ?r))) Y) N (λb a D=>?_) L λi r t=>(M i r t).trans ((AF t).trans (AF r));cases a with|head=>rw[D]at w;simp at w|tail _ a=>show C b a D
  |true=>
   rw[w]at H;show AV (G.put R A λv Ch=>bQ y (A5.mp w) (Ch.s.FV x A)) λW c=>?_;have z:∀b,b∈keys (putD K x (CF (Ad g x)))↔_:=λb=>by(rewrite[KX];show J (AF R) ?_;rewrite[Cp,As];rfl)
   (show O _ (ep+1) AC P (λb a=>⟨λh=>by
     rcases(z b).mp h with h|h;·show(E b (Ah _ a)).1 h
     ·show At (h▸a),(E b (Ah _ a)).2⟩) W F j s λl q p Y N C L M=>?_);have Db:=(IQ (K:=K) (ep:=ep) (m:=m) B.low).2;show I l q p (Ko (b1 ?r (AI S (AI (BS H ?r (AI (Az T (Kg (AH j) rfl ((Rd Db (by unfold encD;rw[Al];show Ai G.len B.l1)).trans (by(rewrite[OF];show J (VX B.low) ?_;rfl))))) ?r)) ?r))) Y) N (λb a D=>?_) (λb a=>L b ((z b).mpr (.inl a))) λi r t=>(M i r t).trans ((AF t).trans (AF r));show mc a (L x ((z x).mpr (.inr rfl))) λa=>C b a D
def a6{i:Type}{F}{t:i->Bool}(E:∀m,DY (U (G.at m)) a):∀(l:List i)(m),(∀B∈l,∀b,m<=b->∃q,b<=q/\w (F B) (U (G.at b))=some (if t B then[F B]else[],U (G.at q)))->∃q,m<=q/\Dr w a (l.map F) (U (G.at m))=some ((l.filter t).map F,U (G.at q)):=by intro l;induction l with|nil=>intro m N;show⟨m,Ag _,rfl⟩|cons B l p=>intro m h;show AJ (h B AR m (Ag _)) λq c r=>AJ (p q λj I b H=>h j (Ah _ I) b (AQ c H)) λL D u=>⟨L,AQ c D,b1 r ?_⟩;dsimp only;show J (AG (E q)) (m1 u (J GO ?_));cases t B<;>rfl
def UK{Do:Type}{l:List Do}{F}{t}(At:C2 P N e (U (G.at m))=some (l.map F,a,U (G.at m)))(step:∀B∈l,∃u,BP p (F B) (clear e r)=some u/\∀h,m<=h->∃q j,h<=q/\AD P c u (U (G.at h))=some (j,U (G.at q))/\Bb (U (G.at q)) j=some (t B)/\AD P b u (U (G.at q))=some (F B,U (G.at q)))(Ch:l.length<lim)(Y:∀m,DY (U (G.at m)) a){w:Prop}(Db:∀q,m<=q->AD P (.comp b [.mk p N [c]] r) e (U (G.at m))=some (.lst ((l.filter t).map F),U (G.at q))->w):w:=by(show AJ (a6 (t:=t) (w:=λx f=>(BP p x _).bind λe=>(I6 P [c] e f).bind λ(t,f)=>match t with|true=>FY P _ [] e e f|false=>some ([],f)) Y l m λB k h d=>by show AJ (step B k) λu I L=>Gr (L h d) λq j h3 D i Q=>⟨q,h3,b1 I ?_⟩;cases E:t B with|true=>rw[E]at i;show b1 (b1 D (b1 i rfl)) (m1 Q rfl)|false=>rw[E]at i;show b1 (b1 D (b1 i rfl)) rfl) λq g H=>?_);show Db q g (b1 (b1 At H) ?_);dsimp only;(show J (AG (by rw[Al];show Ai (H9 _ _) Ch)) ?_;rfl)
def gf{u:List _}(i:u.Nodup)(c:∀x∈u,x<n)(h:n<=u.length):∀x,x<n->x∈u:=λx l=>HM λb=>by
 have:=WR n _ (DO.mpr ⟨b,i⟩) λp a=>by show mc a l λa=>c p a
 show absurd this (Nat.not_le_of_lt (Ai h (Ag _))) 
noncomputable def KU(i:Int)(H:BR):Bool:=!(H.filter λp=>decide (p.1<=i)&&decide (i<=p.2)).isEmpty
def VJ:KU i H=true↔E8 i H:=by
 delta KU E8;rw[Jm,List.isEmpty_eq_false_iff];constructor;·intro h;show Ac (List.exists_mem_of_ne_nil _ h) λp l=>AV (C9.mp l) λa b=>AV ((Ct _ _).mp b) λc H=>⟨p,a,A9 c,A9 H⟩
 ·rintro⟨p,a,b,c⟩;show List.ne_nil_of_mem (C9.mpr ⟨a,J (BC b) (J (BC c) rfl)⟩)
def bP(h:Im g d k){a:Gd}(H:DY (U (g.kd k K ep m)) a):∀(u:List Nat)(e:Env),(∀x∈u,x∈keys K/\x<g.vars.length)->e 34=some (.ref k)->e 36=some (.ref 2)->∃i,Cw (λx e f=>(BP (.nm 8) x e).bind λe=>Ao (AN T3 (n+2)) (ES It 5) e f) a (u.map λ(x:Nat)=>V.int x) e (U (g.kd k K ep m))=some (if u.all λx=>KU (Ak K x) (Ad g x)then .next else .ret (.bool false),i,U (g.kd k K ep m)):=by intro u;induction u with|nil=>intro e c c c;show⟨e,rfl⟩|cons x u B=>
  intro e t l q;show AV (t x AR) λI w=>?_;have N:=(IQ (K:=K) (ep:=ep) (m:=m) h.low).1;let AC:Env:=upd e 8 (.int x);have Y:(Ad g x).length<lim\/lim<=(Ad g x).length:=Nat.lt_or_ge _ _;have b:AD (AN T3 (n+2)) (.cmp .eq (.comp (.var 4) [.mk (.tup [.nm 4,.nm 5]) (.val (.Af (.var 36) 3 [.var 8])) [.chain (.var 4) .le (.idx (.var 34) (.var 8)) .le (.var 5)]] [4,5,115]) (.lst [])) AC (U (g.kd k K ep m))=some (.bool !KU (Ak K x) (Ad g x),U (g.kd k K ep m)):=by have E:=Ge (P:=AN T3 (n+2)) (e:=AC) (f:=U (g.kd k K ep m)) (T:=U (g.kd k K ep m)) (d:=Ad g x) (F:=λp=>V.tup [.int p.1,.int p.2]) (E:=λp=>V.int p.1) (t:=λp=>decide (p.1<=Ak K x)&&decide (Ak K x<=p.2)) (b:=.var 4) (c:=.chain (.var 4) .le (.idx (.var 34) (.var 8)) .le (.var 5)) (p:=.tup [.nm 4,.nm 5]) (N:=.val (.Af (.var 36) 3 [.var 8])) (r:=[4,5,115]) (EC (B5 (AH (show AC 36=_ from q)) ?r ?r (AL (AH ?r) ?r) (LU (n:=n+1) (g:=g.kd k K ep m) (h.FU x w).1)) ?r) (λp c=>⟨_,_,by rfl,NO (AH ?r) (N.get (show(upd (upd (clear AC [4,5,115]) 4 (.int p.1)) 5 (.int p.2)) 34=_ from l) (AH ?r) I) ?r (AH ?r) ?r,by rfl,λc=>AH ?r⟩) (h.bS x w);show Aq E ?r (NW.trans ?_);unfold KU;rw[Bool.not_not];cases(Ad g x).filter λp=>decide (p.1<=Ak K x)&&decide (Ak K x<=p.2)<;>rfl
  show J H7 ?_;cases r:KU (Ak K x) (Ad g x)with|false=>replace b:=r▸b;show⟨AC,b1 (b1 (a:=AC) ?r (Ap (BS b ?r ?r))) ?r⟩|true=>rw[r]at b;show Ac (B AC (λQ L=>t Q (Ah _ L)) l q) λi D=>?_;rw[Bool.true_and];show⟨i,b1 (b1 (a:=AC) ?r (AI (AC:=AC) (T:=U (g.kd k K ep m)) (Bq b ?r ?r) ?r)) (by dsimp only;show J (AG H) ?_;show D)⟩
end
end
section
mutual
open A
variable{n O M l m k c i ep:Nat}{g X G:GS}{f T p o:St}{P:Pg}{e AC:Env}{K a:List (Nat×Int)}{x:Nat}{d:List Told}{v w:Nat->Int}
def eQ(h:AD P j e f=some (.ref k,f))(b:f.objs k=some (.dict (encD I) ep)):C2 P (.val j) e f=some ((keys I).map λ(x:Nat)=>V.int x,some (k,.dict (encD I) ep),f):=by show b1 h (m1 (b1 b rfl) (J Bj (J Bj rfl)))
def ew(b:f.objs k=some (.dict (encD I) ep)):Cb f .len [.ref k]=some (.int I.length,f):=by show m1 (b1 b rfl) ?_;unfold encD;rw[Al]
def eZ(t:g.part=none)(r:6<=m)(s:k<m)(y:m<=h):(U (g.kd k K ep m)).pop (U (g.kd k j q h))=U (g.kd k j q h):=by
 show J (RR (g:=g.kd k K ep m) (L:=g.kd k j q h) (En t r) (En t r)) ?_;congr 1;delta GS.kd GS.at GS.lay;dsimp only;congr 1;funext u;by_cases b:u<m;·show J (AG b) rfl
 ·show J (AF b) (J (AF (Dd (AZ s (DP b)))) (J (AF (Dd (AZ s (DP b)))) rfl))
def cover:∀(n)(u:List _),(∀x,x<n->x∈u)->n<=u.length:=by intro n;induction n with|zero=>intro r r;show De _|succ n q=>intro u h;have b:=h n (Cq n);have:=q _ λx j=>(List.mem_erase_of_ne (Av j)).mpr (h x (LG j));rw[List.length_erase_of_mem b]at this;show Nat.add_le_of_le_sub (List.length_pos_of_mem b) this
def Zw(A:Im g d k)(Re:GK g d a a)(At:k<m)(Op:6<=m)(I:∀K,GK g d a K->(∀t∈d,quiet K t)->(∀x,x<g.vars.length->CF (Ad g x)=CH (Ad g x)->x∈keys K)->(∃v,I4 g d a v)->∀x,x<g.vars.length->x∈keys K){Db:Prop}(T0:∀b Go No Ch,Ae T3 (n+3) 112 [.ref 2,.ref k] (U (g.kd k a ep m))=some (.bool b,U (g.kd k Go No Ch))->m<=Ch->(b=true↔∃v,I4 g d a v)->Db):Db:=by
 let F:=upd (upd (λE=>none) 34 (.ref k)) 36 (.ref 2);have EQ:=A.l1;have Tk:=(IQ (K:=a) (ep:=ep) (m:=m) A.low).1;let T:=(List.range g.vars.length).filter λx=>!decide (x∈keys a);have Ix:=Ge (P:=AN T3 (n+2)) (e:=F) (b:=.var 8) (c:=.cmp _ (.var 8) (.var 34)) (p:=.nm 8) (N:=.DL (.Af (.var 36) 2 [])) (r:=[8,115]) (by rw[<-hO];show Nq (B5 rfl ?r ?r ?r (Pq (n:=n+1))) ⟨Fo (by decide) (Co _),Iy.mpr EQ⟩) (λx E=>⟨_,_,by rfl,Aq rfl rfl (Vz Tk),by rfl,λE=>rfl⟩) (J List.length_range EQ);let AC:=upd F 37 (.lst (T.map λ(x:Nat)=>V.int x));have G:∀x,x∈T↔_:=λx=>by rw[C9,Ju,Jm,decide_eq_false_iff_not]
 show iR (n:=n) A T a ep AC ((List.nodup_range).filter _) (λx j=>⟨((G x).mp j).2,((G x).mp j).1⟩) Re At ?r ?r λH1 Ok Uf JP Gc UF UV FS=>?_;have S:=(FS 34 (by decide) (by decide)).trans ?r;have W:=(FS 36 (by decide) (by decide)).trans ?r;(show kD (n:=n) A 4000000 H1 Ok m (upd Uf 38 _) (by have:=A.l1;show lf this (by simp+arith)) Gc At S W ?r λs C O N M2 z p B Fa E FM=>?_);have Y:=(Fa 34 (by decide) (by decide) (by decide) (by decide)).trans S;have o:=(Fa 36 (by decide) (by decide) (by decide) (by decide)).trans W;have Ps:=I s z B (λx j Sc=>by
  by_cases R:x∈keys a;·show FM x (UV x R)
  ·show FM x (UF x ((G x).mpr ⟨j,R⟩) Sc));show AV (IQ (K:=s) (ep:=C) (m:=O) A.low) λWF Tl=>?_;have Q:∀{b}{Fs}{q},Ao (AN T3 (n+2)) (It.body.drop 4) N (U (g.kd k s C O))=some (.ret (.bool b),Fs,U (g.kd k s C q))->O<=q->(b=true↔∃v,I4 g d a v)->Db:=λ{b Fs q}h Ev Rs=>by have:=DR (w:=112) (D:=[_,_]) ?r ?r ((λh=>AI (Az Ix ?r) (AI (Ea rfl JP) (AI ?r (AI M2 h))):∀{r},_->Ao _ It.body F _=some r) h);rw[eZ A.pn Op At (AQ p Ev)]at this;show T0 b s C q this (AQ p Ev) Rs
 have H:AD (AN T3 (n+2)) (.cmp .lt (.bi .len [.var 34]) (.Af (.var 36) 2 [])) N _=some (.bool (decide ((s.length:Int)<g.vars.length)),_):=Aq (Bk (AL (AH Y) ?r) (ew Tl)) (B5 (AH o) ?r ?r ?r (Pq (n:=n+1))) ?r;have Do:_=(keys s).length:=(Al ..).symm;by_cases i:(s.length:Int)<g.vars.length;·rw[BC i]at H;show Q (Ap (BS (NQ (RC H ?r)) ?r ?r)) (Ag _) ⟨λh=>AX h,λu=>?_⟩;have On:=cover _ _ (Ps u);show absurd (Iy.mp i) (LH (AQ On (AY Do.symm)))
 ·replace H:=Bz i▸H;have c:=gf z.nd z.lt (cn (Aa (inl i) (Aa (IM (AY Do)) (by simp+arith))));(show UK (P:=AN T3 (n+2)) (G:=g.lay k _) (b:=.var 33) (c:=.not (.call 111 [.var 33,.var 34])) (p:=.nm 33) (N:=.val (.attr _ 4)) (r:=[33,115]) (a:=some (4,.list g.BD)) (Mine.AU A.Ig (F2 (IG (AH o) ?r ?r) ?r)) (λt D=>⟨_,by rfl,λCh TE=>by show AJ (Z9 (n:=n) (f:=U (g.kd k s C Ch)) (A.tok t D).1 (IQ A.low).1 (show _ by show AZ At (AQ p TE)) λy M=>c y ((A.tok t D).2 y M)) λq B IN=>⟨q,_,B,Gf (BI (AL rfl (AL (AH Y) ?r)) IN) ?r,by rfl,rfl⟩⟩) (AZ A.l2 (Ag _)) (λE=>rfl) λq w TW=>?_);have L:AD _ (.or [_,_]) N _=_:=NQ (RB H ?r (Aq (b:=.lst []) TW ?r N5));rw[QG]at L;have P:∀v,_->d.all _=_/\∀x,_->E8 (Ak s x) _:=λv u=>by have X:=z.ag v u;show⟨DD.mpr λt D=>Mine.AU (u.s.BD t D) (QT (A.tok t D).1 λy M=>X y (c y ((A.tok t D).2 y M))),λx j=>J (X x (c x j)) (u.s.FV x j)⟩
  cases f:d.all _ with|false=>rw[f]at L;show Q (Ap (BS L ?r ?r)) w ⟨λh=>AX h,λB=>Ac B λv u=>by have:=(P v u).1;rw[f]at this;show AX this⟩|true=>rw[f]at L;have Z:=(IQ (K:=s) (ep:=C) (m:=q) A.low).2;show Ac (bP (n:=n) A (a:=some (k,_)) Z _ N (λx j=>⟨j,z.lt x j⟩) Y o) λWP NE=>?_;have Fk:A8 _ (It.body.getD 4 .fail) N _=_:=Bq L ?r ?r;have l:=Ea (eQ (AH Y) Z) NE;cases e:(keys s).all _ with|false=>rw[e]at l;show Q (AI Fk (Ap l)) w ⟨λh=>AX h,λB=>Ac B λv u=>?_⟩;have:=DD.mpr λx j=>VJ.mpr ((P v u).2 x (z.lt x j));rw[e]at this;show AX this|true=>rw[e]at l;show Q (AI Fk (AI l ?r)) w ⟨λE=>⟨_,⟨DD.mp f,λx j=>VJ.mp (DD.mp e x (c x j))⟩,λx j=>(z.ex x j).2⟩,λE=>rfl⟩
end
end
mutual
open A
noncomputable def DG:CV->Int|.int i=>i|_=>0
noncomputable def IE:CV->List CV|.tup a=>a|_=>[]
def cvAt(k:CV)(j:Nat):CV:=(IE k).getD j (.int 0)
def kindOf(k:CV):Nat:=match cvAt k 0 with|.str s=>if s=Str.ofString "sum"then 0 else if s=Str.ofString "reif"then 1 else if s=Str.ofString "or"then 2 else if s=Str.ofString "all"then 3 else if s=Str.ofString "element_of"then 4 else if s=Str.ofString "element"then 5 else if s=Str.ofString "stand"then 6 else 9|_=>9
def OY(v:Nat->Int)(a:List CV):Int:=(a.map λp=>DG (cvAt p 1)*v (DG (cvAt p 0)).toNat).sum
def RY(k:CV):Row:=⟨match cvAt k 0 with|.str s=>decide (s=Str.ofString "linear_eq")|_=>false,(IE (cvAt k 1)).map DG,(IE (cvAt k 2)).map λx=>(DG x).toNat,DG (cvAt k 3)⟩
def Hl(v:Nat->Int)(t:CV):Prop:=match t with|.int i=>i=1|t=>v (DG (cvAt t 1)).toNat=DG (cvAt t 2)
def I0(k:CV)(i:Int)(v:Nat->Int):Prop:=match kindOf k with|0=>i=OY v (IE (cvAt k 1))+DG (cvAt k 2)|1=>i=Bu (B2 v (RY (cvAt k 1)))|2=>(i=0\/i=1)/\(i=1↔∃x∈IE (cvAt k 1),v (DG x).toNat=1)|3=>(i=0\/i=1)/\(i=1↔∀t∈IE (cvAt k 1),Hl v t)|4=>i=DG ((IE (cvAt k 2)).getD (v (DG (cvAt k 1)).toNat-1).toNat (.int 0))|5=>i=v (DG ((IE (cvAt k 2)).getD (v (DG (cvAt k 1)).toNat-1).toNat (.int 0))).toNat|6=>(Hl v (cvAt k 2)->i=v (DG (cvAt k 1)).toNat)/\(¬Hl v (cvAt k 2)->i=DG (cvAt (cvAt (cvAt k 3) 0) 0))|_=>False
structure Xj(c:GS)(ts:List Told)(K:List (Nat×Int))(v:Nat->Int):Prop where
 b0:∀x,x<3->x∈keys K
 sol:An c ts v
 ag:∀x∈keys K,Ak K x=v x
 q:∀t∈ts,quiet K t
 s:∀x,x<c.vars.length->CF (Ad c x)=CH (Ad c x)->x∈keys K
def Done(c:GS)(d:List Told)(E:Nat):Prop:=∀K v,Xj c d K v->E∈keys K
structure Iv(B:Nat->Prop)(Q:CV->Prop)(c:GS)(ts:List Told):Prop where
 Ig:c.BD=ts.map Told.toV
 FU:∀x,x<c.vars.length->GH 1000 (Ad c x)/\(Ad c x).length<1000
 tok:∀t∈ts,Tok t/\∀x∈CJ t,x<c.vars.length
 done:∀z,z<c.vars.length->¬B z->Done c ts z
 made:∀k z,¬Q k->BK c.made k=some (.int (z:Nat))->z<c.vars.length/\¬B z/\(∀v,An c ts v->I0 k (v z) v)/\((kindOf k=1\/kindOf k=2\/kindOf k=3)->Ad c z=Bf)
 three:3<=c.vars.length
 d0:Ad c 0=[(0,2)]
 d1:Ad c 1=Bf
 d2:Ad c 2=Bf
 nb:∀x,x<3->¬B x
structure Cons(B:Nat->Prop)(Q:CV->Prop)(c:GS)(ts:List Told)(c':GS)(Oh:List Told)(C:(Nat->Int)->Prop):Prop where
 inv:Iv B Q c' Oh
 vs:∃m,c'.vars=c.vars++m
 tx:∃m,Oh=ts++m
 snd:∀v,An c' Oh v->C v
 ext:∀v,An c ts v->C v->∃v',(∀x,x<c.vars.length->v' x=v x)/\An c' Oh v'
end
section
mutual
open A
variable{D:Nat->Prop}{Q:CV->Prop}{c a f:GS}{d b g:List Told}{v w:Nat->Int}{C e:(Nat->Int)->Prop}{k:CV}{H:BR}{t:Told}
def G9(h:a.vars=c.vars++m)(i:x<c.vars.length):Ad a x=Ad c x:=by unfold Ad;show J h (J (List.getElem?_append_left i) rfl)
def An.down(i:∃m,a.vars=c.vars++m)(j:∃m,b=d++m)(h:An a b v):An c d v:=by show Ac i λm i=>Ac j λn j=>⟨λt q=>h.BD t (J j (CZ _ q)),λx l=>Mine.AU (G9 i l) (h.FV x (J i (J Bp (AZ l (A2 _ _)))))⟩
def Done.up(i:∃m,a.vars=c.vars++m)(j:∃m,b=d++m)(h:Done c d E):Done a b E:=λK v q=>by
 show h K v ⟨q.b0,q.sol.down i j,q.ag,λt p=>q.q t ?_,λx l o=>?_⟩;·show Ac j λn j=>?_;show J j ?_;show CZ _ p
 ·show Ac i λm i=>q.s x (J i (J Bp (AZ l (A2 _ _)))) (J (G9 i l) o)
def Cons.rfl(I:Iv D Q c d):Cons D Q c d c d λi=>True:=⟨I,⟨[],(Bv _).symm⟩,⟨[],(Bv _).symm⟩,λi i=>trivial,λv h i=>⟨v,λi i=>Eq.refl _,h⟩⟩
def Cons.trans(h:Cons D Q c d f g C)(i:Cons D Q f g a b e)(M:∀v,An a b v->C v->e v->o v)(L:∀v,An c d v->o v->C v/\∀l,(∀x,x<c.vars.length->l x=v x)->An f g l->e l):Cons D Q c d a b o:=by show Ac h.vs λm p=>Ac i.vs λO A=>Ac h.tx λn B=>Ac i.tx λT E=>⟨i.inv,⟨_,by(show J A ?_;show J p ?_;rewrite[DN];rfl)⟩,⟨_,by(show J E ?_;show J B ?_;rewrite[DN];rfl)⟩,λv j=>M v j (h.snd v (j.down i.vs i.tx)) (i.snd v j),λv j I=>?_⟩;show AV (L v j I) λy z=>AJ (h.ext v j y) λu q s=>AJ (i.ext u s (z u q s)) λN G s2=>⟨N,λx r=>(G x (J p (J Bp (AZ r (A2 _ _))))).trans (q x r),s2⟩
def Od(I:Iv D Q c d)(G:Tok t)(B:∀x∈CJ t,x<c.vars.length):Cons D Q c d (CU c t.toV) (d++[t]) λv=>E7 v t=true:=by
 have l:∃m,(CU c t.toV).vars=c.vars++m:=⟨[],(Bv _).symm⟩;have i:∃m,d++[t]=_:=⟨_,rfl⟩;show⟨⟨?_,I.FU,λu j=>?_,λz E r=>(I.done z E r).up l i,λk z A y=>CW (I.made k z A y) λn o m p=>⟨n,o,λv h=>m v (h.down l i),p⟩,I.three,I.d0,I.d1,I.d2,I.nb⟩,l,i,λv h=>h.BD t (Bx _ AR),λv h s=>⟨v,λL L=>rfl,⟨λu j=>?_,h.FV⟩⟩⟩;·show(?_:c.BD++_=_);(show J I.Ig ?_;show J C8 ?_);rfl
 ·rcases Cp.mp j with q|q;·show I.tok u q
  ·show J (As.mp q) ?_;show⟨G,B⟩
 ·rcases Cp.mp j with q|q;·show h.BD u q
  ·show J (As.mp q) ?_;show s
def Ld:Ad (withVar c k H) c.vars.length=H:=by delta Ad withVar;show J (List.getElem?_append_right (Ag _)) ?_;rewrite[Nat.sub_self];rfl
def Oq(I:Iv D Q c d)(At:GH 1000 H)(Db:H.length<1000)(AC:∀E,E≠c.vars.length->¬y E->¬D E)(L:∀q,q≠k->¬B q->¬Q q)(G:∀E,E<c.vars.length->y E->D E)(Y:∀t∈l,Tok t/\∀x∈CJ t,x<=c.vars.length)(a:GS)(r:a.vars=(withVar c k H).vars)(N:a.made=(withVar c k H).made)(EQ:a.BD=c.BD++l.map Told.toV)(Do:¬y c.vars.length->Done a (d++l) c.vars.length)(Ch:¬B k->¬y c.vars.length/\(∀v,An a (d++l) v->I0 k (v c.vars.length) v)/\(kindOf k=1\/kindOf k=2\/kindOf k=3->H=Bf)):Iv y B a (d++l):=by
 have b:∃m,_=c.vars++m:=⟨_,r⟩;have T:∃m,d++l=_:=⟨_,rfl⟩;have n:a.vars.length=_+1:=J r (Bp ..);have M:Ad a c.vars.length=H:=by have:=Ld (c:=c) (k:=k) (H:=H);unfold Ad at this⊢;show J r ?_;show this
 have s:∀x,_->_=Ad c x:=λx j=>G9 r j;show⟨J EQ (J I.Ig (J C8 rfl)),λx j=>?_,λu g=>?_,λE e o=>?_,λq E O i=>?_,by show J n ?_;have:=I.three;show AQ this (A1 _),J (s 0 (by have:=I.three;show AZ (Ay _ _) this)) I.d0,J (s 1 (by have:=I.three;show AZ (A1 _) this)) I.d1,J (s 2 (by have:=I.three;show this)) I.d2,λx j o=>I.nb x j (G x (by have:=I.three;show AZ j this) o)⟩
 ·by_cases h:x<c.vars.length;·show J (s x h) ?_;show I.FU x h
  ·have:=by show GR (G3 (AZ j (AY n))) (DP h)
   show J this (J M ⟨At,Db⟩)
 ·rcases Cp.mp g with q|q;·show⟨(I.tok u q).1,λx j=>by have:=(I.tok u q).2 x j;show Ai (BH this) (AY n.symm)⟩
  ·show⟨(Y u q).1,λx j=>by have:=(Y u q).2 x j;show Ai this (AY n.symm)⟩
 ·by_cases h:E<c.vars.length;·show(I.done E h (AC E (Av h) o)).up b T
  ·have:=by show GR (G3 (AZ e (AY n))) (DP h)
   clear e h;subst this;show Do o
 ·rw[N]at i;change BK (putC _ k _) q=_ at i;by_cases h:q=k
  ·clear L r N;subst h;rw[Ng]at i;have:c.vars.length=E:=by injection i with i;injection i with i;show Ec i
   clear i;subst this;show BG (Ch O) λp z A=>⟨AY n.symm,p,z,λh=>J M (A h)⟩
  ·rw[Nf _ _ _ _ h]at i;show CW (I.made q E (L q h O) i) λp z m A=>⟨Ai (BH p) (AY n.symm),λo=>z (G E p o),λv f=>m v (f.down b T),λh=>J (s E p) (A h)⟩
end
end
mutual
open A
structure Defs(B:Nat->Prop)(c:GS)(ts:List Told)(k:CV)(d:BR)(t:Told)(F:(Nat->Int)->Int):Prop where
 hd:GH 1000 d
 hl:d.length<1000
 ok:Tok t
 tv:∀x∈CJ t,x=c.vars.length\/(x<c.vars.length/\¬B x)
 zt:c.vars.length∈CJ t
 cg:∀v w,(∀x,x<c.vars.length->v x=w x)->F v=F w
 dm:∀v,An c ts v->E8 (F v) d
 hh:∀v,An c ts v->(E7 v t=true↔v c.vars.length=F v)
 fo:∀v,An c ts v->v c.vars.length=F v->EU v c.vars.length t≠none
 kd:(kindOf k=1\/kindOf k=2\/kindOf k=3)->d=Bf
noncomputable def Gn(v:Nat->Int)(E:Nat)(i:Int):Nat->Int:=λx=>if x=E then i else v x
end
section
mutual
open A
variable{D:Nat->Prop}{Q:CV->Prop}{c a f:GS}{d b g:List Told}{v w:Nat->Int}{C e:(Nat->Int)->Prop}{k:CV}{H:BR}{t:Told}{E:Nat}{F:(Nat->Int)->Int}
def Jc(v)(E)(i):Gn v E i E=i:=AG rfl
def Kt{x:Nat}(i:Int)(h:x<E):Gn v E i x=v x:=AF (Av h)
def An.congr(I:Iv D Q c d)(h:An c d v)(j:∀x,x<c.vars.length->v x=w x):An c d w:=⟨λt q=>Mine.AU (QT (I.tok t q).1 λy l=>j y ((I.tok t q).2 y l)) (h.BD t q),λx i=>Mine.AU (j x i) (h.FV x i)⟩
def An.told(I:Iv D Q c d)(i:∀x,x<c.vars.length->Ad a x=Ad c x)(j:a.vars.length=c.vars.length+1)(h:An c d v)(o:E8 (v c.vars.length) (Ad a c.vars.length))(l:E7 v t=true):An a (d++[t]) v:=⟨λu m=>by
  rcases Cp.mp m with q|q;·show h.BD u q
  ·show J (As.mp q) ?_;show l,λx n=>by
  by_cases q:x<c.vars.length;·show J (i x q) ?_;show h.FV x q
  ·have:=by show GR (G3 (AZ n (AY j))) (DP q)
   show J this ?_;show o⟩
def P9(h:∀v,An a b v->∃t∈b,Tok t/\E∈CJ t/\(∀x∈CJ t,x=E\/Done a b x)/\EU v E t≠none):Done a b E:=λK v q=>HM λn=>by show Ow (h v q.sol) λt p s r u m=>?_;have l:=λy j i=>((u y j).resolve_left i) K v q;show m (Mine.AU (q.q t p E r n λy j o=>HM λi=>o (l y j i)) (Us s λy j i=>q.ag y (l y j i)).symm)
def Ka{B:_->_}(p:Iv D Q c d)(AC:¬Q k)(A:¬D c.vars.length)(I:Defs D c d k H (B c.vars.length) F)(M:∀v,An c d v->∀i,I0 k i v↔i=F v)(h:Once c k H (λE=>(B E).toV) E a){z:Prop}(T:∀b,Cons D Q c d a b (λn=>True)->E<a.vars.length->¬D E->(∀v,An a b v->v E=F v)->(kindOf k=1\/kindOf k=2\/kindOf k=3->Ad a E=Bf)->z):z:=by
 rcases h with⟨O,rfl⟩|⟨O,rfl,rfl⟩;·show CW (p.made k E AC O) λY e m f=>T d (Cons.rfl p) Y e (λv o=>(M v o _).mp (m v o)) f
 ·have o:∃m,(CU (withVar c k H) (B c.vars.length).toV).vars=_++m:=⟨_,rfl⟩;have r:∃m,d++[B c.vars.length]=_:=⟨_,rfl⟩;have L:(CU (withVar c k H) (B c.vars.length).toV).vars.length=_+1:=Bp ..;have y:∀v,An _ _ v->_:=λv j=>(I.hh v (j.down o r)).mp (j.BD _ (Bx _ AR));have G:Ad _ c.vars.length=H:=Ld (k:=k);have t:Iv D Q (CU _ _) _:=Oq p I.hd I.hl (λn n h=>h) (λn n h=>h) (λn n h=>h) (λu g=>by show J (As.mp g) ?_;show⟨I.ok,λx l=>by rcases I.tv x l with q|q;show AY q;show BH q.1⟩) _ rfl rfl rfl (λn=>P9 λv j=>⟨_,Bx _ AR,I.ok,I.zt,λx l=>(I.tv x l).imp id λq=>(p.done x q.1 q.2).up o r,I.fo v (j.down o r) (y v j)⟩) λn=>⟨A,λv j=>J (y v j) ((M v (j.down o r) _).mpr rfl),I.kd⟩;show T _ ⟨t,o,r,λn n=>trivial,λv j n=>?_⟩ (IA (Cq _) L.symm) A y λh=>G.trans (I.kd h);have s:∀x,_->_=Gn v c.vars.length (F v) x:=λx l=>(Kt _ l).symm;have N:=j.congr p s;show⟨_,λx l=>(s x l).symm,N.told p (λx l=>G9 rfl l) L ?_ ((I.hh _ N).mpr (by(rewrite[Jc];show J (I.cg _ _ λx l=>(s x l).symm) ?_;rfl)))⟩;show J G ?_;rewrite[Jc];show I.dm v j
def a8(I:Iv D Q c d)(AC:¬Q k)(B:¬D c.vars.length)(L:-1000<=i/\i<=1000)(At:kindOf k=0)(M:∀v j,I0 k j v↔j=i)(h:BK c.made k=some (.int E)/\a=c\/BK c.made k=none/\E=c.vars.length/\a=withVar c k [(i,i)]):∃b,Cons D Q c d a b (λl=>True)/\E<a.vars.length/\¬D E/\∀v,An a b v->v E=i:=by
 rcases h with⟨T,rfl⟩|⟨T,rfl,rfl⟩;·show CW (I.made k E AC T) λY e m C=>⟨d,Cons.rfl I,Y,e,λv g=>(M v _).mp (m v g)⟩
 ·skip;have r:(withVar c k [(i,i)]).vars.length=_+1:=Bp ..;have y:Ad (withVar c k [(i,i)]) _=_:=Ld;have O:∀v,An _ (d++[]) v->_:=λv n=>by show B3 (n.FV _ (AY r.symm)) λp s z A=>?_;rw[y]at s;rw[As.mp s]at z A;show Gx A z
  have w:=Oq I ⟨Dt _ _,λp s=>J (As.mp s) ⟨BB _,BB _,BB _,L.1,L.2⟩⟩ (by show(?_:1<_);decide) (λl l h=>h) (λl l h=>h) (λl l h=>h) (λu f=>by cases f) _ rfl rfl (Bv _).symm (λl K v q=>q.s _ (AY r.symm) (J y rfl)) λl=>⟨B,λv n=>J (O v n) ((M v _).mpr rfl),λh=>by replace h:=At▸h;rcases h with h|h|h<;>cases h⟩;show⟨_,⟨w,⟨_,rfl⟩,⟨_,rfl⟩,λl l=>trivial,λv n l=>?_⟩,AY r.symm,B,O⟩;have G:∀x,_->_=Gn v c.vars.length i x:=λx o=>(Kt _ o).symm;have N:=n.congr I G;show⟨_,λx o=>(G x o).symm,⟨λt q=>N.BD t (by rw[Bv]at q;show q),λx o=>?_⟩⟩;by_cases q:x<c.vars.length;·show J (G9 rfl q) ?_;show N.FV x q
  ·have:=by show GR (G3 (AZ o (AY r))) (DP q)
   show J this (J y ?_);rewrite[Jc];show⟨_,AR,BB _,BB _⟩
end
end
section
mutual
open A
variable{D:Nat->Prop}{Q:CV->Prop}{c e g:GS}{d b m:List Told}{v w:Nat->Int}{C f:(Nat->Int)->Prop}{k:CV}{H:BR}{t:Told}{E:Nat}{F:(Nat->Int)->Int}
def An.range(I:Iv D Q c d)(h:An c d v)(i:x<c.vars.length):CF (Ad c x)<=v x/\v x<=CH (Ad c x):=B3 (h.FV x i) λp o l n=>CW ((I.FU x i).1.2 p o) λa q j r=>⟨Aa a (Aa l (by simp+arith)),Aa j (Aa n (by simp+arith))⟩
def fg{x:Int}(i:l<=x)(j:x<=h):min (a*l) (a*h)<=a*x/\a*x<=max (a*l) (a*h):=(Int.le_total 0 a).elim (λp=>⟨BE (Int.min_le_left _ _) (O8 i p),BE (O8 j p) (Int.le_max_right _ _)⟩) λp=>⟨BE (Int.min_le_right _ _) (Int.mul_le_mul_of_nonpos_left p j),BE (Int.mul_le_mul_of_nonpos_left p i) (Int.le_max_left _ _)⟩
def Zn(I:Iv D Q c d)(y:An c d v):∀(h)(lo i s),(∀p∈h,p.1<c.vars.length)->lo<=s->s<=i->(Bc c h lo i).1<=ev v h+s/\ev v h+s<=(Bc c h lo i).2:=by intro h;induction h with|nil=>intro lo i s o j l;show(?_:lo<=0+s/\0+s<=i);show⟨Aa j (by simp+arith),Aa l (by simp+arith)⟩|cons o h q=>obtain⟨x,a⟩:=o;intro lo i s n j l;show AV (y.range I (n _ AR)) λA B=>AV (fg (a:=a) A B) λm1 z=>?_;have:=q (lo+min (a*CF (Ad c x)) (a*CH (Ad c x))) (i+max (a*CF (Ad c x)) (a*CH (Ad c x))) (s+a*v x) (λp u=>n p (Ah _ u)) (Jp j m1) (Jp l z);have r:ev v ((x,a)::h)=a*v x+ev v h:=rfl;show J r (?_:(Bc c h _ _).1<=_/\_<=(Bc c h _ _).2);show⟨Aa this.1 (by simp+arith),Aa this.2 (by simp+arith)⟩
def L5(I:Iv D Q c d)(a:An c d v){w}(h:∀p∈w.ps,p.1<c.vars.length):(BQ c w).1<=w.at v/\w.at v<=(BQ c w).2:=Zn I a _ _ _ _ h (BB _) (BB _)
def bV:∀a:_,dot v (BY a++i) (keys a++u)=ev v a+dot v i u:=by intro a;induction a with|nil=>show(Js _).symm|cons p a h=>have:=h;show(?_:p.2*v p.1+dot v _ _=p.2*v p.1+ev v a+_);show J h ?_;show by simp+arith 
def dG:∀(a),(∀p∈a,p.1≠E)->((BY a++[-1]).zip (keys a++[E])).filter λp=>(p.2:Int)==E=[(-1,E)]:=by intro a;induction a with|nil=>intro n;show J GO (J (AG (EN _)) rfl)|cons p a i=>
  intro h;have:((p.1:Int)==E)=false:=by rw[I9];intro j;show h p AR (Ec j)
  (show J GO ?_;show J (AF (by show J this ?_;show HL)) ?_);show i λq l=>h q (Ah _ l)
def RX{x}(h:(((r.cs.zip r.xs).filter λp=>(p.2:Int)==x).map λp=>p.1).sum=B)(i:B=1\/B=-1):F8 v r x≠none:=by
 unfold F8;dsimp only;show J h ?_;generalize r.c-_=a;clear h;rcases i with rfl|rfl;·show J (Int.fmod_one a) ?_;show Ce
 ·show J (Int.fmod_eq_zero_of_dvd ⟨-a,by simp+arith⟩) ?_;show Ce
def i5:∀a:List (Nat×Int),OY v (a.map λp=>CV.tup [.int p.1,.int p.2])=ev v a:=by intro a;induction a with|nil=>show rfl|cons p a h=>have:=h;show(?_:p.2*v p.1+OY v (a.map λp=>CV.tup [.int p.1,.int p.2])=p.2*v p.1+ev v a);show J this rfl
def fQ:I0 (sumK a j) i v↔i=ev v a+j:=by show(?_:i=OY v (a.map _)+j↔_);rw[i5]
def cG(h:∀p∈a,v p.1=w p.1):ev v a=ev w a:=by induction a with|nil=>rfl|cons p a j=>show(?_:p.2*v p.1+ev v a=_);show J (h p AR) (J (j λq i=>h q (Ah _ i)) rfl)
structure NV(B:Nat->Prop)(c:GS)(w:Val):Prop where
 lt:∀p∈w.ps,p.1<c.vars.length/\¬B p.1
 ln:w.ps.length<900
 sm:∀p∈w.ps,p.2.natAbs<=1000000
def LO(h:NV D c B)(j:∀x,x<c.vars.length->v x=w x):B.at v=B.at w:=by unfold Val.at;show J (cG λp a=>j _ (h.lt p a).1) rfl
def Qw(I:Iv D Q c d)(AC:∀At i,¬Q (sumK At i))(Y:¬D c.vars.length)(n:NV D c B)(r:-1000<=(BQ c B).1/\(BQ c B).2<=1000)(h:VO c B E e){O:Prop}(M:∀b,(Cons D Q c d e b (λo=>True))->E<e.vars.length->¬D E->(∀v,An e b v->v E=B.at v)->O):O:=by
 rcases h with⟨y,rfl⟩|⟨_,u,h⟩|⟨u,h⟩;·show AV (Wu y) λT m=>AV (n.lt _ (J T AR)) λa s=>M d (Cons.rfl I) a s (λv o=>?_);unfold Val.at;show J T (J m ((?_:_=1*v E+0+0)));show(by simp+arith)
 ·skip
  (show Ka (B:=λE=>.row ⟨true,_,_++[E],_⟩) I (AC _ _) Y
    {hd:=⟨Dt _ _,λp l=>J (As.mp l) (⟨BB _,(LQ c _ _ _ (BB _)),BB _,r.1,r.2⟩)⟩
     hl:=by show(?_:1<_);decide
     ok:=⟨by rw[Bp,Bp];show AE (·+1) ((Al _).trans (Al _).symm),by unfold keys;(show J Bp ?_;rewrite[Al]);have:=n.ln;show(Ex (AZ this (Ay _ _))),λa f=>by
      rcases Cp.mp f with q|q;·show AJ (Ar.mp q) λp l N=>?_;clear f q;obtain rfl:=N;show n.sm p l
      ·show J (As.mp q) ?_;decide⟩
     tv:=λx g=>by
      rcases Cp.mp g with q|q;·show AJ (Ar.mp q) λp l N=>?_;clear g q;obtain rfl:=N;show .inr (n.lt p l)
      ·show .inl (As.mp q)
     zt:=Bx _ AR
     cg:=λv w k=>LO n k
     dm:=λv y=>by show AV (L5 I y λp l=>(n.lt p l).1) λa s=>⟨_,AR,a,s⟩
     hh:=λv o=>by show(?_:((_)==-_)=_↔_=_+B.c);rw[A5,bV];show(?_:_+(-1*v c.vars.length+0)=_↔_);show bz
     fo:=λv o o=>RX (J (dG _ (λp l=>Av (n.lt p l).1)) rfl) (.inr rfl)
     kd:=λh=>by rcases h with h|h|h<;>cases h} (λv o i=>fQ) h λb z A G L o=>?_);show M b z A G L
 ·have hl:BQ c B=(B.c,B.c):=by unfold BQ;show J u ?_;rfl
  replace r:=(hl)▸r;(show H0 (a8 (i:=B.c) I (AC [] _) Y r rfl (λv j=>by show(?_:j=0+B.c↔_);(simp+arith;done)) h) λb z A G L=>?_);show M b z A G (λv t=>?_);unfold Val.at;show J (L v t) (J u ((?_:_=0+B.c)));show(by simp+arith)
end
end
mutual
open A
def BF(v:Nat->Int):Val->Prop|.bit x s=>v x=Bu s|.bool b=>b=true|_=>False
def CA(c:GS)(d:List Told):Val->Prop|.bit x _=>x<c.vars.length/\∀v,An c d v->v x=0\/v x=1|.bool _=>True|_=>False
def TD(D:Nat->Prop)(c:GS):Val->Prop|.bit x _=>x<c.vars.length/\Ad c x=Bf/\¬D x|.bool _=>True|_=>False
def Km(j:Bool)(s:Int):Prop:=if j=true then s=0 else s<=0
end
section
mutual
open A
variable{D:Nat->Prop}{Q:CV->Prop}{c e l:GS}{d f n:List Told}{v w:Nat->Int}{C i:(Nat->Int)->Prop}{k:CV}{H:BR}{t:Told}{E:Nat}{F:(Nat->Int)->Int}{B:Val}{j:Bool}
def R3(m:An c d v)(o:x<c.vars.length)(h:Ad c x=Bf):v x=0\/v x=1:=by show B3 (m.FV x o) λp a b g=>?_;replace a:=h▸a;rw[As.mp a]at b g;show d8 b g
def TD.Er(h:TD D c B):CA c d B:=by cases B with|int=>cases h|sum=>cases h|bool=>trivial|bit x s=>show⟨h.1,λv a=>R3 a h.1 h.2.1⟩
def Na(h:CA c d B)(a:An c d v):BF v (CS B)↔¬BF v B:=by cases B with
 |int=>cases h|sum=>cases h|bool b=>clear h;cases b with|true=>show⟨AX,absurd rfl⟩|false=>show⟨λ_ h=>AX h,λ_=>rfl⟩
 |bit x s=>show(?_:_=_↔¬_=_);rcases h.2 v a with q|q<;>show J q ?_<;>cases s<;>trivial
def CA.flip(h:CA c d B):CA c d (CS B):=by cases B<;>show h
def TD.flip(h:TD D c B):TD D c (CS B):=by cases B<;>show h
def TD.up(a:∃m,e.vars=c.vars++m)(h:TD D c B):TD D e B:=by cases B with|int=>cases h|sum=>cases h|bool=>trivial|bit x s=>show Ac a λm j=>⟨by(show J j ?_;show J Bp ?_);have:=h.1;show AZ this (A2 _ _),J (G9 j h.1) h.2.1,h.2.2⟩
def CA.up(a:∃m,e.vars=c.vars++m)(g:∃m,f=d++m)(h:CA c d B):CA e f B:=by cases B with|int=>cases h|sum=>cases h|bool=>trivial|bit x s=>show⟨by(show Ac a λm j=>?_;(skip));(show J j ?_;show J Bp ?_);have:=h.1;show AZ this (A2 _ _),λv b=>h.2 v (b.down a g)⟩
def hV(r):RY (OJ r)=r:=by obtain⟨j,a,b,c⟩:=r;show(?_:(⟨_,_,_,c⟩:Row)=_);show J (J Bj (List.map_id _):(a.map _).map DG=a) (J (J Bj (List.map_id _):(b.map _).map _=b) ?_);cases j<;>rfl
def NC(c:GS)(r:Row):Prop:=∀x,r.cs=[1]->r.xs=[x]->Ad c x=Bf->if r.eq=true then r.c=0\/r.c=1 else r.c=0
def fJ(I:Iv D Q c d)(O:∀r,¬Q (MO r))(N:¬D c.vars.length)(ok:HZ r)(m:∀x∈r.xs,x<c.vars.length/\¬D x)(AC:NC c r)(h:TT c r B e){z:Prop}(L:∀f,Cons D Q c d e f (λa=>True)->TD D e B->(∀v,An e f v->(BF v B↔B2 v r=true))->z):z:=by
 rcases h with⟨x,A,o,h3,rfl,rfl⟩|⟨E,h,rfl⟩;·have u:=m x (J o AR);show L d (Cons.rfl I) ⟨u.1,h3,u.2⟩ λv s=>?_;have g:=AC x A o h3;have M:=R3 s u.1 h3;unfold B2;show J (J A (J o (by simp+arith:1*v x+0=v x)):dot v r.cs _=_) ?_;cases G:r.eq with|false=>rw[G]at g;show J g (?_:v x=0↔decide _=_);show⟨λh=>BC (Cy h),λh=>M.resolve_right λj=>absurd (j▸A9 h) (by decide)⟩|true=>
   rw[G]at g;rcases g with q|q;·show J q ?_;show(?_:v x=0↔(v x==0)=_);rw[A5]
   ·show J q ?_;show(?_:v x=1↔(v x==1)=_);rw[A5]
 ·(show Ka (F:=λv=>Bu (B2 v r)) (B:=λb=>.EX b r) I (O r) N
    {hd:=⟨Dt _ _,λp T=>J (As.mp T) ⟨by decide,by decide,by decide,by decide,by decide⟩⟩
     hl:=by decide
     ok:=⟨ok,λh=>HU _ (m _ h).1⟩
     tv:=λx h=>by
      rcases Cp.mp h with q|q;·show .inr (m x q)
      ·show .inl (As.mp q)
     zt:=Bx _ AR
     cg:=λv w j=>J (MP λy Y=>j y (m y Y).1) rfl
     dm:=λv a=>⟨_,AR,by cases B2 v r<;>decide,by cases B2 v r<;>decide⟩
     hh:=λv a=>by show(?_:(_==Bu _)=_↔_);rw[A5]
     fo:=λv a a=>(J (AG (EN _)) Ce:(if _==_ then _ else _)≠_)
     kd:=λa=>rfl} λv a i=>by show(?_:i=Bu (B2 v (RY (OJ r)))↔_);rw[hV] h λf k l n t C=>?_);show L f k ⟨l,C (.inl rfl),n⟩ λv s=>by show(?_:v E=1↔_);show J (t v s) ?_;cases B2 v r<;>trivial 
def P4(p:lo<=s)(m:s<=g)(h:dec j lo g=some b):b=true↔Km j s:=by
 unfold dec at h
 cases j with|true=>
  show(?_:_↔s=0);dsimp only at h;by_cases q:(decide (0<lo)||decide (g<0))=true
  ·rw[AG q]at h;show Mine.AU (AP h) ?_;rcases(H3 _ _).mp q with q|q;·show⟨λh=>AX h,λh=>absurd h (HR (Fo (A9 q) p))⟩
   ·show⟨λh=>AX h,λh=>absurd h (Int.ne_of_lt (HQ m (A9 q)))⟩
  ·rw[AF q]at h;by_cases o:lo=g;·rw[AG o]at h;show Mine.AU (AP h) ⟨λa=>by show Gx (Aa m (Aa (Cy o.symm) (Aa (inl λh=>q (J (BC h) rfl)) (by simp+arith)))) (Aa p (Aa (Cy o.symm) (Aa (inl (λh=>q (by(show J (BC h) ?_;rewrite[Bool.or_true];rfl)):¬g<0)) (by simp+arith)))),λa=>rfl⟩
   ·rw[AF o]at h;show AS h|false=>
  show(?_:_↔s<=0);dsimp only at h;by_cases q:(decide (g<=0)||decide (0<lo))=true
  ·rw[AG q]at h;show Mine.AU (AP h) ?_;rewrite[decide_eq_true_iff];rcases(H3 _ _).mp q with q|q;·have:=A9 q;show⟨λa=>BE m a,λa=>this⟩
   ·show⟨BE m,λa=>absurd (Fo (A9 q) (BE p a)) (Int.lt_irrefl _)⟩
  ·rw[AF q]at h;show AS h
def bG{lo a:Int}(h:dec j lo a=none):if j=true then lo<=0/\0<=a/\lo≠a else 0<a/\lo<=0:=by unfold dec at h;cases j with|true=>
  show(?_:lo<=0/\0<=a/\lo≠a);dsimp only at h;by_cases q:(decide (0<lo)||decide (a<0))=true;·rw[AG q]at h;show Ce h
  ·rw[AF q]at h;by_cases b:lo=a;·rw[AG b]at h;show Ce h
   ·have g:¬0<lo:=λh=>q (J (BC h) rfl);have m:¬a<0:=λh=>q (by(show J (BC h) ?_;rewrite[Bool.or_true];rfl));show⟨Int.not_lt.mp g,Int.not_lt.mp m,b⟩|false=>
  show(?_:0<a/\lo<=0);dsimp only at h;by_cases q:(decide (a<=0)||decide (0<lo))=true;·rw[AG q]at h;show Ce h
  ·skip;show And.intro (Nr λh=>q (J (BC h) rfl)) (inl λh=>q (by(show J (BC h) ?_;rewrite[Bool.or_true];rfl))) 
def bU:∀b:_,(∀p∈b,g∣p.2)->g*dot v ((BY b).map λa=>a/g) (keys b)=ev v b:=by intro b;induction b with|nil=>intro r;show Int.mul_zero _|cons p b m=>intro h;show(?_:g*(p.2/g*v p.1+dot v ((BY b).map _) (keys b))=_*_+ev v b);(rewrite[Int.mul_add];show J (m λq o=>h q (Ah _ o)) ?_;rewrite[<-Int.mul_assoc];show J (Int.mul_ediv_cancel' (h p AR)) ?_;rfl)
def T4:∀(b)(u),dot v (b.map λa=>-a) u=-dot v b u|[],_=>by cases‹List Nat›<;>rfl|_::_,[]=>rfl|a::b,x::u=>by show(?_:-a*v x+dot v _ u=-(a*v x+dot v b u));show J (T4 b u) ?_;rewrite[Int.neg_mul];show by simp+arith 
def jk(r):B2 v (turn r).1=if(turn r).2 then !B2 v r else B2 v r:=by
 unfold turn;by_cases h:r.cs.headD 0<0;·show J (AG h) (?_:(if _ then _==if _ then _ else _ else decide (_<=if _ then _ else _))=if _ then _ else _);rw[T4];unfold B2;generalize dot v _ r.xs=a;cases r.eq with|true=>show(?_:(-a==-_)=(a==_));rw[Fh,A5,A5];(simp+arith;done)|false=>show(?_:decide (-a<=_-1)=!decide (a<=_));show fj
 ·show J (AF h) ?_;rfl
end
end
section
mutual
open A
variable{D:Nat->Prop}{Q:CV->Prop}{c f n:GS}{d l o:List Told}{v w:Nat->Int}{C m:(Nat->Int)->Prop}{k:CV}{H:BR}{t:Told}{E:Nat}{F:(Nat->Int)->Int}{B:Val}{j:Bool}{e:List (Nat×Int)}{i:Int}
def Uw(h:∀p∈e,p.2≠0)(g:e≠[]):(0:Int)<B6 0 (BY e)/\∀p∈e,(B6 0 (BY e):Int)∣p.2:=by have b:∀p∈e,p.2∈_:=λp a=>Ar.mpr ⟨p,a,rfl⟩;show⟨?_,λp a=>(Nc _ _).2 _ (b p a)⟩;cases e with|nil=>show absurd rfl g|cons p r=>show Int.natCast_pos.mpr (Uv (b p AR) (h p AR))
def cH:∀e:_,(∀p∈e,g∣p.2)->g∣ev v e:=by intro e;induction e with|nil=>intro r;show Int.dvd_zero _|cons p e a=>intro h;show Int.dvd_add (Int.dvd_mul_of_dvd_left (h p AR)) (a λq b=>h q (Ah _ b))
def Ra(u:∀p∈e,p.2≠0)(s:e≠[])(h:Gk j e i=.so b):b=false/\∀v,¬Km j (ev v e+i):=by
 show AV (Uw u s) λy r=>?_;unfold Gk at h;by_cases q:j=true/\-i%B6 0 (BY e)≠0;·rw[AG q]at h;(have a:=q;clear q;show AV a λx q=>?_;(try clear a);obtain rfl:=x);show⟨by injection h with h;show h.symm,λv g=>q (J (show-i=_ by show Gx (Aa (Cy g.symm) (by simp+arith)) (Aa (Cy g) (by simp+arith))) (Int.emod_eq_zero_of_dvd (cH e r)))⟩
 ·rw[AF q]at h;cases h
def RZ(M:∀p∈e,p.2≠0)(I:e≠[])(h:Gk j e i=.row r):r=⟨j,(BY e).map λa=>a/B6 0 (BY e),keys e,-i/B6 0 (BY e)⟩/\(j=true->-i%B6 0 (BY e)=0)/\∀v,B2 v r=true↔Km j (ev v e+i):=by
 show AV (Uw M I) λx G=>?_;unfold Gk at h;by_cases q:j=true/\-i%B6 0 (BY e)≠0;·replace h:=AG q▸h;cases h
 ·replace h:=AF q▸h;have u:r=⟨j,(BY e).map λa=>a/B6 0 (BY e),keys e,-i/B6 0 (BY e)⟩:=by injection h with h;show h.symm
  have A:=λL=>HM λN=>q ⟨L,N⟩;show⟨u,A,λv=>?_⟩
  have y:=bU (v:=v) e G;show J u ?_;unfold B2;generalize dot v _ _=b at y;generalize B6 0 _=g at*;show Mine.AU y ?_;clear q h u;cases j with|true=>
   have z:=Int.mul_ediv_cancel' (Int.dvd_of_emod_eq_zero (A rfl));show(?_:(b==-i/g)=_↔_+i=0);rw[A5];constructor;·intro s;(show J s ?_;show J z ?_);show by simp+arith
   ·intro s;have:g*b=g* _ :=J z (Gx (Aa (Cy s) (by simp+arith)) (Aa (Cy s.symm) (by simp+arith))) ;show Int.eq_of_mul_eq_mul_left (HR x) this|false=>show(?_:decide (b<=-i/g)=_↔_+i<=0);(rewrite[decide_eq_true_iff,Int.le_ediv_iff_mul_le x];show J (Int.mul_comm b g) ?_);(simp+arith;done)
def bL{a:Int}(g:0<=b)(p:b<=a)(q:0<a):b/a=0\/b/a=1:=(Int.lt_or_eq_of_le p).elim (λh=>.inl (Int.ediv_eq_zero_of_lt g h)) λh=>.inr (h▸Int.ediv_self (HR (h▸q)))
def Vy(a:0<h)(g:h<=b):-h/b=-1:=((Int.ediv_emod_unique (Fo a g)).mpr ⟨by simp+arith,Int.sub_nonneg_of_le g,Int.sub_lt_self b a⟩).1
def bR(h3:Ad c A=Bf):Bc c [(A,a)] i i=(i+min 0 a,i+max 0 a):=by show(?_:(_,_)=_);show J h3 (AE (λb=>(i+min b.1 b.2,i+max b.1 b.2)) (congr (AE Prod.mk (Int.mul_zero a)) (Int.mul_one a)))
def jj(I:∀p∈e,p.2≠0)(O:e≠[])(h:Gk j e i=.row r)(Y:dec j (Bc c e i i).1 (Bc c e i i).2=none):NC c (turn r).1:=by
 show BG (RZ I O h) λs l m x k T h3=>?_;clear h l m;have f:(turn r).1.xs=r.xs:=by unfold turn;split<;>rfl
 show(List.map_eq_singleton_iff.mp ((AE _ s).symm.trans (f.symm.trans T))).elim λp g=>?_;have A:=I p (g.1▸AR);have b:=bG Y;have N:=(AE (λe=>Bc c e i i) g.1).trans (bR (g.2.symm▸h3));rw[N]at b;have G:=(AE (λe=>(B6 0 (BY e):Int)) g.1).trans (AE _ (Nat.gcd_zero_right _));have y:_=p.2/p.2.natAbs:=(AE (λr=>r.cs.headD 0) s).trans ((AE (λH=>((BY e).map λa=>a/H).headD 0) G).trans (AE (λe=>((BY e).map _).headD 0) g.1));have u:r.c=-i/p.2.natAbs:=(AE _ s).trans (AE (λH=>-i/H) G);have d:r.eq=j:=AE _ s;clear s I O Y k T f N G g;generalize p.2=a at*;rcases Int.lt_or_gt_of_ne A with q|q
 ·have L:=Int.ofNat_natAbs_of_nonpos (D6 q);rw[L]at y u;rw[Int.min_eq_right (D6 q),Int.max_eq_left (D6 q),HP]at b;have M:turn r=_:=AG (by rw[y,Int.ediv_neg,Int.ediv_self A];decide)
  rw[M];rw[d,u];cases j with|true=>
   have b:i+a<=0/\0<=i/\i+a≠i:=b;show(?_:-_=0\/-_=1);rcases Int.lt_or_eq_of_le b.2.1 with z|z;·show .inr (by rw[Vy z (Int.le_neg_of_le_neg (Aa b.1 (by simp+arith)))];rfl)
   ·show .inl (by rw[<-z,Int.neg_zero,Int.zero_ediv];rfl)|false=>show(?_:-_-1=0);rw[Vy b.1 (Aa b.2 (by simp+arith))];rfl
 ·have L:=Int.natAbs_of_nonneg (D6 q);rw[L]at y u;rw[Int.min_eq_left (D6 q),Int.max_eq_right (D6 q),HP]at b;have M:turn r=_:=AF (by rw[y,Int.ediv_self A];decide);rw[M];rw[d,u];cases j with|true=>show bL (Int.neg_nonneg_of_nonpos b.1) (Aa b.2.1 (by simp+arith)) q|false=>show Int.ediv_eq_zero_of_lt (Int.neg_nonneg_of_nonpos b.2) (Aa b.1 (by simp+arith))
def KA(h:dec j (Bc c e i i).1 (Bc c e i i).2=none):e≠[]:=λa=>by replace h:=a▸h;show Tw j i h
def We{r:Row}(G:NV D c B)(q:r=⟨j,(BY B.ps).map λa=>a/B6 0 (BY B.ps),keys B.ps,i⟩){L:Prop}(M:HZ r->HZ (turn r).1->(∀x∈r.xs,x<c.vars.length/\¬D x)->(turn r).1.xs=r.xs->L):L:=by
 have s:r.cs.length=r.xs.length:=J q Tb;have u:r.xs.length<1000:=by show J q ?_;show(?_:(keys B.ps).length<_);unfold keys;rw[Al];have:=G.ln;show AZ this (Ay _ _)
 have y:∀a∈r.cs,a.natAbs<=1000000:=by show J q ?_;intro b z;show AJ (Ar.mp z) λa h g=>?_;obtain rfl:=g;show AJ (Ar.mp h) λp A g=>?_;clear h;obtain rfl:=g;show AQ (Int.natAbs_ediv_le_natAbs _ _) (G.sm p A)
 show M ⟨s,u,y⟩ ?_ (λx I=>?_) (by unfold turn;split<;>rfl)
 ·unfold turn;split;·show⟨(Al ..).trans s,u,λb z=>by(show AJ (Ar.mp z) λa h g=>?_;obtain rfl:=g);rw[Int.natAbs_neg];show y a h⟩
  ·show⟨s,u,y⟩
 ·rw[q]at I;show AJ (Ar.mp I) λp A g=>?_;clear I;obtain rfl:=g;show G.lt p A
def Qv(I:Iv D Q c d)(Y:∀r,¬Q (MO r))(T:¬D c.vars.length)(N:NV D c x)(y:∀p∈x.ps,p.2≠0)(h:RT c j x B f){A:Prop}(O:∀l,Cons D Q c d f l (λAC=>True)->TD D f B->(∀v,An f l v->(BF v B↔Km j (x.at v)))->A):A:=by
 have G:=λv(s:An c d v)=>L5 I s λp k=>(N.lt p k).1;rcases h.split with⟨b,a,rfl,e⟩|⟨r,u1,a,n,rfl⟩;·subst e;show O d (Cons.rfl I) trivial λv s=>?_;unfold rowF at a;cases g:dec j _ _ with|some q=>rw[g]at a;show Mine.AU (by injection a:q=b) (P4 (G v s).1 (G v s).2 g)|none=>rw[g]at a;show AV (Ra y (KA g) a) λH i=>?_;clear a;obtain rfl:=H;show⟨λh=>AX h,λh=>absurd h (i v)⟩
 ·unfold rowF at a;cases g:dec j _ _ with|some q=>rw[g]at a;cases a|none=>rw[g]at a;show BG (RZ y (KA g) a) λm AC s=>We N m λF w C E=>fJ I Y T w (J E C) (jj y (KA g) a g) n λl o z t=>O l o (by split;show z.flip;show z) λv M=>?_;have u:=t v M;rw[jk]at u;show Iff.trans ?_ (s v);cases L:(turn r).2 with|false=>rw[L]at u;show u|true=>rw[L]at u;show(?_:BF v (CS u1)↔_);rw[Na z.Er M,u];cases B2 v r<;>trivial
def fG(I:Iv D Q c d)(T:NV D c x)(O:∀p∈x.ps,p.2≠0)(h:RQ c j x f){G:Prop}(M:∀l,(Cons D Q c d f l λv=>Km j (x.at v))->G):G:=by
 have N:=λv(g:An c d v)=>L5 I g λp e=>(T.lt p e).1;unfold RQ at h;have Y:(∀v,An c d v->¬Km j (x.at v))->f=CU c (Told.toV (.clause [] []))->G:=λL q=>by have k:=Od (t:=.clause [] []) I ⟨by decide,by decide,λu h=>by cases h⟩ λu h=>(by cases h);subst q;show M _ ⟨k.inv,k.vs,k.tx,λv a=>absurd (k.snd v a) AX,λv g q=>absurd q (L v g)⟩
 cases s:dec j _ _ with
 |some b=>
  have A:rowF j (BQ c x).1 (BQ c x).2 x.ps x.c=.so b:=by unfold rowF;(show J s ?_;rfl)
  rw[A]at h;have g:=λv a=>P4 (N v a).1 (N v a).2 s;clear s A;cases b with|true=>have k:=Cons.rfl I;subst h;show M d ⟨I,k.vs,k.tx,λv a=>(g v a).mp rfl,λv a u=>⟨v,λu u=>rfl,a⟩⟩|false=>show Y (λv a q=>by have:=(g v a).mpr q;show AX this) h
 |none=>
  have A:rowF j (BQ c x).1 (BQ c x).2 x.ps x.c=Gk j x.ps x.c:=by unfold rowF;(show J s ?_;rfl)
  rw[A]at h;cases z:Gk j _ _ with|so b=>replace h:=z▸h;show AV (Ra O (KA s) z) λt L=>?_;clear z;obtain rfl:=t;show Y (λv u=>L v) h|row r=>rw[z]at h;have h:=h;show BG (RZ O (KA s) z) λi u g=>We T i λn w o B=>?_;have k:=Od (t:=.row r) I n λy m=>(o y m).1;subst h;show M _ ⟨k.inv,k.vs,k.tx,λv a=>(g v).mp (k.snd v a),λv a q=>k.ext v a ((g v).mpr q)⟩
end
end
mutual
open A
def B0(_:Nat):Prop:=False
def Q0(_:CV):Prop:=False
structure NZ(c:GS)(w:Val):Prop where
 nv:NV B0 c w
 nz:∀p∈w.ps,p.2≠0
end
section
mutual
open A
variable{D:Nat->Prop}{Q:CV->Prop}{c a n:GS}{d b e:List Told}{v w:Nat->Int}{C f:(Nat->Int)->Prop}{k:CV}{H:BR}{t:Told}{E:Nat}{F:(Nat->Int)->Int}{B:Val}{j:Bool}{g:List (Nat×Int)}{i:Int}
def NV.up(o:∃m,a.vars=c.vars++m)(h:NV D c x):NV D a x:=⟨λp l=>⟨by(show Ac o λm j=>?_;(skip));(show J j ?_;show J Bp ?_);have:=(h.lt p l).1;show AZ this (A2 _ _),(h.lt p l).2⟩,h.ln,h.sm⟩
def NZ.up(l:∃m,a.vars=c.vars++m)(h:NZ c x):NZ a x:=⟨h.nv.up l,h.nz⟩
def fH:∀{o}{c:GS}{d},Iv B0 Q0 c d->(∀w∈o,NZ c w)->G4 o c a->∀{p:Prop},(∀b,(Cons B0 Q0 c d a b λv=>∀w∈o,w.at v<=0)->p)->p:=by intro o;induction o with|nil=>intro c d I m h p u;subst h;have k:=Cons.rfl I;show u d ⟨I,k.vs,k.tx,λm m=>CP _,λv z m=>⟨v,λm m=>rfl,z⟩⟩|cons x o G=>intro c d I r h p u;show AJ h λY M N=>?_;have A:=r x AR;show fG I A.nv A.nz M λe s=>G s.inv (λy l=>(r y (Ah _ l)).up s.vs) N λT O=>u T (s.trans O (λv m q L y l=>?_) λv z q=>⟨q x AR,λf j m y l=>J (LO (r y (Ah _ l)).nv j) (q y (Ah _ l))⟩);·show mc l q λl=>L y l
def Vk:∀{o l}{c:GS}{d},Iv B0 Q0 c d->(∀w∈o,NZ c w)->Fx o l c a->∀{q:Prop},(∀b,Cons B0 Q0 c d a b (λm=>True)->(∀B∈l,TD B0 a B)->(∀v,An a b v->((∀B∈l,BF v B)↔∀w∈o,w.at v<=0))->q)->q:=by intro o;induction o with|nil=>intro l c d I m h q z;show z d (BX h.2▸Cons.rfl I) (BX h.1▸CP _) λm m=>BX h.1▸⟨λm=>CP _,λm=>CP _⟩|cons x o M=>
  intro l c d I G h q z;show Il h λB r i j T Y=>?_;subst j;have L:=G x AR;show Qv I (λm h=>h) (λh=>h) L.nv L.nz T λe u t1 f=>M u.inv (λy p=>(G y (Ah _ p)).up u.vs) Y λg s t2 s2=>z g (u.trans s (λm m m m=>m) λm m m=>⟨m,λm m m=>trivial⟩) (λy p=>?_) λv A=>?_;·show mc p (t1.up s.vs) λp=>t2 y p
  ·have N:=f v (A.down s.vs s.tx);have O:=s2 v A;show Bo.trans ((and_congr N O).trans ⟨λh=>Bo.mpr h,λh=>Bo.mp h⟩)
def Td{l:List _}(u:∀B∈l,Aj B=true)(y:.bool true∉l)(o:∀x,x∈z↔.bit x true∈l)(p:∀x,x∈r↔.bit x false∈l):E7 v (.clause z r)=true↔∃B∈l,BF v B:=by
 show(?_:(_||_)=_↔_);rw[H3,Ds,Ds];constructor
 ·rintro(⟨x,m,q⟩|⟨x,m,q⟩);·show⟨_,(o x).mp m,A5.mp q⟩
  ·show⟨_,(p x).mp m,A5.mp q⟩
 ·rintro⟨B,h,q⟩;have:=u B h;cases B with|int=>show AX this|sum=>show AX this|bool A=>rw[q]at h;show absurd h y|bit x s=>clear this;cases s with|true=>show .inl ⟨x,(o x).mpr h,A5.mpr q⟩|false=>show .inr ⟨x,(p x).mpr h,A5.mpr q⟩
def CA.DU(h:CA c d B):Aj B=true:=by cases B<;>first|rfl|cases h
def Qu(I:Iv D Q c d)(o:∀B∈l,CA c d B)(h:RS l c a){p:Prop}(y:∀b,(Cons D Q c d a b λv=>∃B∈l,BF v B)->p):p:=by
 rcases h with⟨h,rfl⟩|⟨Y,T,L,s,u,⟨h3,O,l2⟩,rfl⟩;·have k:=Cons.rfl I;show y d ⟨I,k.vs,k.tx,λv m=>by
   rcases h with h|⟨x,r,A⟩;·show⟨_,h,rfl⟩
   ·rcases(o _ r).2 v m with q|q;·show⟨_,A,q⟩
    ·show⟨_,r,q⟩,λv m z=>⟨v,λz z=>rfl,m⟩⟩
 ·have k:=Od (t:=.clause _ _) I ⟨AZ O (Ay _ _),AZ l2 (Ay _ _),h3⟩ λx N=>by
   rcases Cp.mp N with q|q;·show(o _ ((s x).mp q)).1
   ·show(o _ ((u x).mp q)).1
  have j:=λv=>Td (v:=v) (λB M=>(o B M).DU) L s u;show y _ ⟨k.inv,k.vs,k.tx,λv m=>(j v).mp (k.snd v m),λv m G=>k.ext v m ((j v).mpr G)⟩
def Bs(v:Nat->Int)(p:Nat×Bool):Prop:=v p.1=Bu p.2
def KS(l:List Val)(h:List (Nat×Bool))(o:Option (List (Nat×Bool))):Prop:=Option.elim o (∀v:Nat->Int,¬((∀p∈h,Bs v p)/\∀B∈l,BF v B)) λq=>(∀v:Nat->Int,(∀p∈q,Bs v p)↔(∀p∈h,Bs v p)/\∀B∈l,BF v B)/\∀p∈q,p∈h\/Cd p∈l
def ec:∀(l:List Val)(L:List (Nat×Bool)),(∀B∈l,Aj B=true)->KS l L (Dk L l):=by
 show Qn (u:=λl k o=>(∀B∈l,Aj B=true)->KS l k o) (λk A=>⟨λv=>⟨λh=>⟨h,CP _⟩,And.left⟩,λp=>.inl⟩) (λB l k o j m y=>?_) (λl k A v r=>AX (r.2 _ AR)) (λx s l k h A v r=>?_) λx s l k M o A z A m y=>?_;·have m:=m λB h=>y B (Ah _ h);have G:∀v:Nat->Int,(∀B∈l,BF v B)↔∀w∈B::l,BF v w:=λv=>⟨λh=>Bo.mpr ⟨j.elim (λj=>j▸rfl) λq=>AX (q.symm.trans (y B AR)),h⟩,λh=>(Bo.mp h).2⟩;cases o with|none=>showλv r=>m v ⟨r.1,(G v).mpr r.2⟩|some q=>show⟨λv=>(m.1 v).trans (and_congr FO (G v)),λp u=>(m.2 p u).imp id (Ah _)⟩
 ·have j:Bu (!s)=Bu s:=(r.1 _ h).symm.trans (r.2 _ AR);cases s<;>cases j
 ·have m:=m λB h=>y B (Ah _ h);have I:∀v:Nat->Int,((∀p∈M,Bs v p)/\∀B∈l,BF v B)↔(∀p∈k,Bs v p)/\∀B∈.bit x s::l,BF v B:=λv=>(and_congr ⟨λh=>⟨λp u=>h p ((z p).mpr (.inl u)),h _ ((z _).mpr (.inr rfl))⟩,λh p u=>((z p).mp u).elim (h.1 p) λj=>j▸h.2⟩ FO).trans (and_assoc.trans (and_congr FO Bo.symm));cases o with|none=>showλv r=>m v ((I v).mpr r)|some q=>show⟨λv=>(m.1 v).trans (I v),λp u=>(m.2 p u).elim (λh=>((z p).mp h).elim .inl λj=>.inr (by rw[j];show AR)) λh=>.inr (Ah _ h)⟩
end
end
section
mutual
open A
variable{c e j g f:GS}{d b n:List Told}{v w:Nat->Int}{k:CV}{H:BR}{t:Told}{E:Nat}{F:(Nat->Int)->Int}{B:Val}{z:List (Nat×Bool)}{i:Int}
def VF(a:m=0\/m=1):(i=0\/i=1)/\(i=1↔m=1)↔i=m:=⟨λh=>h.1.elim (λl=>a.elim (λo=>l.trans o.symm) λo=>(h.2.mpr o).trans o.symm) λl=>l.trans (h.2.mp l).symm,λh=>⟨a.imp h.trans h.trans,⟨h.symm.trans,h.trans⟩⟩⟩
def L6(s:u≠[])(h:∀x∈u,v x=0\/v x=1):∃m,(u.map v).max?=some m/\(m=0\/m=1)/\(m=1↔∃x∈u,v x=1):=by cases o:(u.map v).max? with|none=>show absurd (GQ.mp (List.max?_eq_none_iff.mp o)) s|some m=>
  show AV (List.max?_eq_some_iff.mp o) λa r=>?_;show AJ (Ar.mp a) λx p D=>?_;clear o a;obtain rfl:=D;show⟨_,rfl,h x p,λl=>⟨x,p,l⟩,λA=>AJ A λy C l=>?_⟩;have:=r _ (Ar.mpr ⟨y,C,rfl⟩);rcases h x p with q|q;·show Gx (Aa (Cy q) (by simp+arith)) (Aa this (Aa (Cy l.symm) (by simp+arith)))
  ·show q
def L9(A:u≠[])(h:∀x∈u,v x=0\/v x=1):∃m,(u.map v).min?=some m/\(m=0\/m=1)/\(m=1↔∀x∈u,v x=1):=by cases o:(u.map v).min? with|none=>show absurd (GQ.mp (List.min?_eq_none_iff.mp o)) A|some m=>
  show AV (List.min?_eq_some_iff.mp o) λa s=>?_;show AJ (Ar.mp a) λx p C=>?_;clear o a;obtain rfl:=C;show⟨_,rfl,h x p,λl y r=>?_,λl=>l x p⟩;have:=s _ (Ar.mpr ⟨y,r,rfl⟩);rcases h y r with q|q;·show Gx (Aa (Cy q) (by simp+arith)) (Aa this (Aa (Cy l.symm) (by simp+arith)))
  ·show q
def P7(h:i=0\/i=1):E8 i Bf:=h.elim (λh=>h▸⟨_,AR,by decide,by decide⟩) λh=>h▸⟨_,AR,by decide,by decide⟩
def MV:GH 1000 Bf:=⟨Dt _ _,λp a=>J (As.mp a) ⟨(by decide:(0:Int)<=0),(by decide:(0:Int)<=1),(by decide:(1:Int)<=1),(by decide:(-1000:Int)<=0),(by decide:(1:Int)<=1000)⟩⟩
structure Jj(c:GS)(ts:List Told)(bs:List (Nat×Bool)):Prop where
 t:∀p∈bs,CA c ts (Cd p)
 h0:bs≠[]
 l:bs.length<63
def Jj.xs(h:Jj c d z):(∀x∈CY z,x<c.vars.length)/\CY z≠[]/\(CY z).length<63/\∀v,An c d v->∀x∈CY z,v x=0\/v x=1:=by
 show⟨λx a=>?_,λq=>h.h0 (GQ.mp q),by unfold CY;rw[Al];show h.l,λv r x a=>?_⟩;·show AJ (Ar.mp a) λp m o=>?_;clear a;obtain rfl:=o;show(h.t p m).1
 ·show AJ (Ar.mp a) λp m o=>?_;clear a;obtain rfl:=o;show(h.t p m).2 v r
def fE(I:Iv B0 Q0 c d)(h:Jj c d z)(Q:∀p∈z,p.2=false)(Y:Once c (OA (CY z)) Bf (OB (CY z)) E e){O:Prop}(AC:∀b,Cons B0 Q0 c d e b (λD=>True)->TD B0 e (.bit E false)->(∀v,An e b v->(v E=0↔∀p∈z,Bs v p))->O):O:=by
 show CW h.xs λM s n u=>?_
 (show Ka (F:=λv=>((CY z).map v).max?.getD 0) (B:=.or (CY z)) I (λh=>h) (λh=>h)
   {hd:=MV
    hl:=by decide
    ok:=⟨AZ n (Ay _ _),s,λq=>HU _ (M _ q)⟩
    tv:=λx r=>(Cp.mp r).elim (λq=>.inr ⟨M x q,λh=>h⟩) λq=>.inl (As.mp q)
    zt:=Bx _ AR
    cg:=λv w l=>J (GP λx r=>l x (M x r)) rfl
    dm:=λv o=>B3 (L6 s (u v o)) λm l a D=>J l (P7 a)
    hh:=λv o=>by show B3 (L6 s (u v o)) λm l a D=>(?_:(match((CY z).map v).max? with|none=>_|some i=>_)=_↔_);show J l ?_;show A5
    fo:=λv o D=>by show B3 (L6 s (u v o)) λm l a D=>(?_:(if _ then((CY z).map v).max? else _)≠_);show J (AG (EN _)) (J l Ce)
    kd:=λD=>rfl} (λv o i=>by show B3 (L6 s (u v o)) λm l a G=>(?_:_/\(_↔∃x∈(CY z).map _,_)↔_);show J l ?_;rw[(by rw[G];show⟨λ⟨x,r,q⟩=>by(show AJ (Ar.mp r) λy L N=>?_;clear r;obtain rfl:=N);show⟨y,L,q⟩,λ⟨y,L,q⟩=>⟨_,Ar.mpr ⟨y,L,rfl⟩,q⟩⟩:(∃x∈(CY z).map λ(x:Nat)=>CV.int x,v (DG x).toNat=1)↔m=1)];show VF a) Y λb C f g j k=>?_);show AC b C ⟨f,k (.inr (.inl rfl)),g⟩ λv o=>B3 (L6 s (u v (o.down C.vs C.tx))) λm l a G=>J (j v o) (J l (?_:m=0↔_));have:m=0↔¬m=1:=⟨λh l=>absurd (h.symm.trans l) (by decide),a.resolve_right⟩;rw[this,G];constructor;·intro q p A;have T:p.1∈_:=Ar.mpr ⟨p,A,rfl⟩;show(?_:_=_);show J (Q p A) ((u v (o.down C.vs C.tx) _ T).resolve_right λl=>q ⟨_,T,l⟩)
 ·rintro q⟨x,r,l⟩;show AJ (Ar.mp r) λp A N=>?_;clear r;obtain rfl:=N;have:=q p A;unfold Bs at this;replace this:=Q p A▸this;replace l:=this▸l;cases l
def e'(I:Iv B0 Q0 c d)(h:Jj c d z)(O:∀p∈z,p.2=true)(T:Once c (EL z) Bf (M0 (CY z)) E e){M:Prop}(AC:∀b,Cons B0 Q0 c d e b (λy=>True)->TD B0 e (.bit E true)->(∀v,An e b v->(v E=1↔∀p∈z,Bs v p))->M):M:=by
 show CW h.xs λG s k A=>?_;have N:∀v:_,(∀x∈CY z,v x=1)↔∀p∈z,Bs v p:=λv=>⟨λq p r=>(J (O p r) (q _ (Ar.mpr ⟨p,r,rfl⟩)):_=Bu p.2),λq x u=>by show AJ (Ar.mp u) λp r L=>?_;obtain rfl:=L;have:=q p r;unfold Bs at this;rw[O p r]at this;show this⟩
 (show Ka (F:=λv=>((CY z).map v).min?.getD 0) (B:=.and (CY z)) I (λh=>h) (λh=>h)
   {hd:=MV
    hl:=by decide
    ok:=⟨AZ k (Ay _ _),s,λq=>HU _ (G _ q)⟩
    tv:=λx u=>(Cp.mp u).elim (λq=>.inr ⟨G x q,λh=>h⟩) λq=>.inl (As.mp q)
    zt:=Bx _ AR
    cg:=λv w l=>J (GP λx u=>l x (G x u)) rfl
    dm:=λv o=>B3 (L9 s (A v o)) λm l a y=>J l (P7 a)
    hh:=λv o=>by show B3 (L9 s (A v o)) λm l a y=>(?_:(match((CY z).map v).min? with|none=>_|some i=>_)=_↔_);show J l ?_;show A5
    fo:=λv o y=>by show B3 (L9 s (A v o)) λm l a y=>(?_:(if _ then((CY z).map v).min? else _)≠_);show J (AG (EN _)) (J l Ce)
    kd:=λy=>rfl} (λv o i=>by show B3 (L9 s (A v o)) λm l a C=>(?_:_/\(_↔∀t∈z.map I',Hl v t)↔_);show J l ?_;rw[(by rw[C,N v];show⟨λq p r=>q _ (Ar.mpr ⟨p,r,rfl⟩),λq t Q=>by(show AJ (Ar.mp Q) λp r L=>?_;clear Q;obtain rfl:=L);show q p r⟩:(∀t∈z.map I',Hl v t)↔m=1)];show VF a) T λb D Y f g j=>?_);show AC b D ⟨Y,j (.inr (.inr rfl)),f⟩ λv o=>B3 (L9 s (A v (o.down D.vs D.tx))) λm l a C=>J (g v o) ?_;rewrite[<-N v];show J l C
def dQ{l:List _}(u:∀x,x∈C↔.bit x true∈l)(A:∀x,x∈r↔.bit x false∈l)(h:∀B∈l,(∃s,B=.bit E s)\/¬BF v B):EU v E (.clause C r)≠none:=by
 show(?_:(if _||_ then _ else _)≠_);rw[AF];·show Ce
 ·rw[H3,Ds,Ds];rintro(⟨y,p,o⟩|⟨y,p,o⟩)
  ·show AV (C9.mp p) λa m=>?_;rcases h _ ((u y).mp a)with⟨s,q⟩|q;·injection q with q;rw[q]at m;simp at m
   ·show q (A5.mp o)
  ·show AV (C9.mp p) λa m=>?_;rcases h _ ((A y).mp a)with⟨s,q⟩|q;·injection q with q;rw[q]at m;simp at m
   ·show q (A5.mp o)
def Wi(y:∀B∈l,Aj B=true)(p:.bool true∉l)(A:∀x,¬(.bit x true∈l/\.bit x false∈l))(h:RS l g f){r:Prop}(D:∀t:Told,f=CU g t.toV->Tok t->(∀x,x∈CJ t↔∃s,.bit x s∈l)->(∀v,E7 v t=true↔∃B∈l,BF v B)->(∀E v,(∀B∈l,(∃s,B=.bit E s)\/¬BF v B)->EU v E t≠none)->r):r:=by
 rcases h with⟨h,_⟩|⟨L,I,p,m,o,⟨h3,G,l2⟩,rfl⟩
 ·rcases h with h|⟨x,a,u⟩;·show absurd h p
  ·show absurd ⟨a,u⟩ (A x)
 ·show D (.clause _ _) rfl ⟨AZ G (Ay _ _),AZ l2 (Ay _ _),h3⟩ (λx=>(?_:x∈_++_↔_)) (λv=>Td y p m o) λE v q=>dQ m o q;rw[Cp,m,o];show⟨λh=>h.elim (λh=>⟨_,h⟩) λh=>⟨_,h⟩,λC=>Ac C λs h=>by cases s;show .inr h;show .inl h⟩
structure RU(z:Nat)(bs:List (Nat×Bool))(us:List Told):Prop where
 ok:∀t∈us,Tok t/\∀x∈CJ t,x=z\/∃p∈bs,x=p.1
 hb:∀v,(∀t∈us,E7 v t=true)↔∀p∈bs,v z=0\/Bs v p
 fc:∀p∈bs,∃t∈us,z∈CJ t/\(∀x∈CJ t,x=z\/x=p.1)/\∀v,¬Bs v p->EU v z t≠none
def RU.cons(ok:Tok t)(C:E∈CJ t)(o:∀x∈CJ t,x=E\/x=p.1)(y:∀v,E7 v t=true↔v E=0\/Bs v p)(u:∀v,¬Bs v p->EU v E t≠none)(q:RU E r l):RU E (p::r) (t::l):=⟨Bo.mpr ⟨⟨ok,λx a=>(o x a).imp id λs=>⟨p,AR,s⟩⟩,λB m=>⟨(q.ok B m).1,λx a=>((q.ok B m).2 x a).imp id λh=>h.imp λp h=>⟨Ah _ h.1,h.2⟩⟩⟩,λv=>Bo.trans ((and_congr (y v) (q.hb v)).trans ⟨λh=>Bo.mpr h,λh=>Bo.mp h⟩),Bo.mpr ⟨⟨t,AR,C,o,u⟩,λw A=>(q.fc w A).imp λt h=>⟨Ah _ h.1,h.2⟩⟩⟩
def ha:∀{z}{g:GS},(∀p∈z,p.1≠E)->Fw E z g f->∀{u:Prop},(∀l:List Told,f=⟨g.vars,g.BD++l.map Told.toV,g.made,g.part,g.other,g.next⟩->RU E z l->u)->u:=by intro z;induction z with|nil=>showλC h u A=>A [] (h.trans (by(show J List.map_nil ?_;rewrite[Bv];rfl))) ⟨CP _,λC=>⟨λC=>CP _,λC=>CP _⟩,CP _⟩|cons p r I=>
  intro g D h u A;show AJ h λi M N=>?_;have T:=D p AR;show Wi (Oj rfl rfl) (by intro h;rcases BU.mp h with h|h;cases h;cases As.mp h) (λx o=>AV o λa y=>by
   have L:x=p.1:=by
    rcases BU.mp a with h|h;·cases h
    ·injection As.mp h
   rcases BU.mp y with h|h;·injection h with h;show T (Mine.AU L h)
   ·have a:=As.mp ((BU.mp a).resolve_left λh=>by cases h);have y:=As.mp h;rw[<-a]at y;cases y) M λt d c G O Q=>?_;obtain rfl:=d;show I (λq o=>D q (Ah _ o)) N λl e q=>A (t::l) (e.trans ?_) (.cons c ((G E).mpr ⟨_,AR⟩) (λx b=>Ac ((G x).mp b) λs h=>?_) (λv=>(O v).trans ⟨λo=>AJ o λB m q=>?_,λh=>h.elim (λh=>⟨_,AR,h⟩) λh=>⟨_,Ah _ AR,h⟩⟩) (λv Y=>Q E v λB m=>?_) q);·unfold CU;dsimp only;(show J Fq ?_;rewrite[DN]);rfl
  ·rcases BU.mp h with h|h;·injection h with h;show .inl h
   ·injection As.mp h with h;show .inr h
  ·cases m with|head=>show .inl q|tail _ m=>rw[As.mp m]at q;show .inr q
  ·show mc m ?_ λm=>?_;·show .inl ⟨_,rfl⟩
   ·show J (As.mp m) ?_;show .inr Y
end
end
def Iq(q:List (Nat×Bool)):Prop:=∀x,¬((x,true)∈q/\(x,false)∈q)
section
mutual
open A
variable{c f n g m:GS}{d j o:List Told}{v w:Nat->Int}{k:CV}{H:BR}{t:Told}{E:Nat}{F:(Nat->Int)->Int}{B:Val}{z:List (Nat×Bool)}{i:Int}
def eb(l:List Val)(C q:List (Nat×Bool)):Iq C->Dk C l=some q->Iq q:=λh=>Qn (u:=λl k D=>Iq k->∀q,D=some q->Iq q) (λk p q h=>AP h▸p) (λB l k D I A=>A) (λl k p q h=>AS h) (λx s l k I p q h=>AS h) (λx s l k M D G u I A p=>A λy r=>((u _).mp r.1).elim (λa=>((u _).mp r.2).elim (λb=>p y ⟨a,b⟩) λe=>G (by cases e;show a)) λe=>((u _).mp r.2).elim (λb=>G (by cases e;show b)) λL=>AX ((DQ L).2.trans (DQ e).2.symm)) l C h q
def Vn:I0 (EL z) b v↔(b=0\/b=1)/\(b=1↔∀p∈z,Bs v p):=by show(?_:_/\(_↔∀t∈z.map I',_)↔_);have q:(∀t∈z.map I',Hl v t)↔∀p∈z,Bs v p:=⟨λq p a=>q _ (Ar.mpr ⟨p,a,rfl⟩),λq t e=>by(show AJ (Ar.mp e) λp a h=>?_;clear e;obtain rfl:=h);show q p a⟩;rw[q]
def d7(h:∀p∈z,v p.1=w p.1):(∀p∈z,Bs v p)↔∀p∈z,Bs w p:=⟨λq p a=>by have:=q p a;unfold Bs at this⊢;show Mine.AU (h p a) ?_;show this,λq p a=>by have:=q p a;unfold Bs at this⊢;show J (h p a) ?_;show this⟩
open Classical in
def fD(I:Iv B0 Q0 c d)(h:Jj c d z)(H1:Iq z)(L:E=c.vars.length)(FM:Fw E z (withVar c (EL z) Bf) m)(FS:RS (.bit E true::z.map λp=>CS (Cd p)) m f){Do:Prop}(Fs:∀j,Cons B0 Q0 c d f j (λG=>True)->TD B0 f (.bit E true)->(∀v,An f j v->(v E=1↔∀p∈z,Bs v p))->Do):Do:=by
 have K:=λp l=>(h.t p l).1;have V:=λp l=>by have:=K p l;show Av (AZ this (AY L.symm))
 show ha V FM λn Y T=>?_;have P:∀x s,_∈(.bit E true::z.map λp=>CS (Cd p))↔_\/(x,!s)∈z:=λx s=>by rw[BU,Val.bit.injEq,Ar];show or_congr FO ⟨λM=>AJ M λp l e=>?_,λl=>⟨_,l,by show(?_:Val.bit x (!!s)=_);rw[Bool.not_not]⟩⟩;obtain⟨y,r⟩:=p;injection e with Y g;show Mine.AU Y (Mine.AU g ?_);rewrite[Bool.not_not];show l
 (show Wi λB u=>by
   rcases BU.mp u with rfl|u;·rfl
   ·show AJ (Ar.mp u) λp G o=>?_;clear u;obtain rfl:=o;rfl (λu=>by
   rcases BU.mp u with u|u;·cases u
   ·show AJ (Ar.mp u) λp G e=>?_;cases e) (λx M=>AV M λa b=>by
   have b2:=((P x _).mp b).resolve_left λq=>by cases q.2
   rcases(P x _).mp a with⟨e,_⟩|a;·show V _ b2 e
   ·show H1 x ⟨b2,a⟩) FS λt g Gc At Fa Fk=>?_);have i:f.vars=(withVar c (EL z) Bf).vars:=J g (J Y rfl);have k:∃Q,_=c.vars++Q:=⟨_,i⟩;have X:∃Q,d++(n++[t])=_:=⟨_,rfl⟩;have S:f.vars.length=_+1:=J i (Bp ..);have F:Ad f E=Bf:=by have:=Ld (c:=c) (k:=EL z) (H:=Bf);unfold Ad at this⊢;show J i (J L this)
 have Ch:∀x∈_,_\/∃p∈z,x=p.1:=λx A=>by
  show Ac ((At x).mp A) λs C=>?_;rcases(P x s).mp C with⟨a,_⟩|a;·show .inl a
  ·show .inr ⟨_,a,rfl⟩
 have w:=λv k p l=>(h.t p l).2 v k;have Db:∀v,_->_\/_->((∀D∈_,E7 v D=_)↔(_↔_)):=λv a b=>by
  have e:(∀D∈n++[t],E7 v D=true)↔(∀p∈z,v E=0\/Bs v p)/\(v E=1\/∃p∈z,¬Bs v p):=by rw[<-T.hb v,<-(λv w=>by
  show(Fa v).trans ⟨?_,?_⟩
  ·rintro⟨B,u,q⟩;rcases BU.mp u with rfl|u;·show .inl q
   ·show AJ (Ar.mp u) λp l o=>?_;clear u;obtain rfl:=o;show .inr ⟨p,l,λe=>?_⟩;have q:_=_:=q;rw[e]at q;cases C:p.2<;>rw[C]at q<;>cases q
  ·rintro(q|⟨p,l,q⟩);·show⟨_,AR,q⟩
   ·show⟨_,Ah _ (Ar.mpr ⟨p,l,rfl⟩),(?_:_=_)⟩;unfold Bs at q;rcases w p l with e|e<;>rw[e]at q⊢<;>cases C:p.2<;>rw[C]at q<;>first|rfl|show absurd rfl q:∀v,(∀p∈z,v p.1=0\/v p.1=1)->(_↔v E=1\/∃p∈z,¬Bs v p)) v a];show⟨λq=>⟨λD N=>q D (CZ _ N),q t (Bx _ AR)⟩,λM D N=>AV M λq r=>(Cp.mp N).elim (q D) λe=>J (As.mp e) r⟩
  rw[e];constructor;·rintro⟨q,r⟩;show⟨λe p l=>(q p l).resolve_left (HR (Aa (Cy e.symm) (by simp+arith))),λe=>r.resolve_right λM=>AJ M λp l O=>O (e p l)⟩
  ·intro q;show⟨λp l=>?_,?_⟩
   ·rcases b with b|b;·show .inl b
    ·show .inr (q.mp b p l)
   ·by_cases e:∀p∈z,Bs v p;·show .inl (q.mpr e)
    ·show .inr (HM λO=>e λp l=>HM λQ=>O ⟨p,l,Q⟩)
 have AC:∀v,An f (d++(n++[t])) v->_/\_:=λv C=>by have b:=R3 C (Ai (AY L) (AY S.symm)) F;show⟨b,(Db v (w v (C.down k X)) b).mp λD N=>C.BD D (Bx _ N)⟩
 have lt':∀x,(x=E\/∃p∈z,x=p.1)->x<=c.vars.length:=λx A=>by
  clear FM FS Fs V T P At Fa Fk F Ch Db AC;rcases A with rfl|⟨p,l,rfl⟩;·show AY L
  ·show BH (K p l)
 have Ev:∀x,(x=E\/∃p∈z,x=_)->_\/Done f _ x:=λx A=>A.imp id λM=>AJ M λp l e=>by show J e ?_;show(I.done _ (K p l) λh=>h).up k X
 have Ix:Iv B0 Q0 f (d++(n++[t])):=Oq (l:=n++[t]) (k:=EL z) I MV (by show(?_:1<1000);decide) (λG G h=>h) (λG G h=>h) (λG G h=>h) (λD N=>by
   rcases Cp.mp N with q|q;·show⟨(T.ok D q).1,λx A=>lt' x ((T.ok D q).2 x A)⟩
   ·show J (As.mp q) ?_;show⟨Gc,λx A=>lt' x (Ch x A)⟩) f i (J g (J Y rfl)) (by(show J g ?_;show J Y ?_;show J C8 ?_;rewrite[<-DN]);rfl) (λG=>by
    show Mine.AU L (P9 λv C=>?_);by_cases e:∀p∈z,Bs v p;·show⟨t,Bx _ (Bx _ AR),Gc,(At E).mpr ⟨true,AR⟩,λx A=>Ev x (Ch x A),Fk E v λB u=>by
      rcases BU.mp u with rfl|u;·show .inl ⟨_,rfl⟩
      ·show AJ (Ar.mp u) λp l o=>?_;clear u;obtain rfl:=o;show .inr λq=>?_;have q:v p.1=Bu !p.2:=q;have:=e p l;rw[this]at q;cases C:p.2<;>replace q:=C▸q<;>cases q⟩
    ·obtain⟨p,l,O⟩:∃p∈z,¬Bs v p:=HM λO=>e λp l=>HM λQ=>O ⟨p,l,Q⟩;show H0 (T.fc p l) λD a b H Go=>⟨D,Bx _ (CZ _ a),(T.ok D a).1,b,λx A=>Ev x ((H x A).imp id λe=>⟨p,l,e⟩),Go v O⟩) λG=>⟨λh=>h,λv C=>Mine.AU L (Vn.mpr (AC v C)),λG=>rfl⟩;show Fs _ ⟨Ix,k,X,λG G=>trivial,λv C G=>?_⟩ ⟨Ai (AY L) (AY S.symm),F,λh=>h⟩ λv C=>(AC v C).2;have R:∀x,_->_=Gn v E (if∀p∈z,Bs v p then 1 else 0) x:=λx A=>(Kt _ (AZ A (AY L.symm))).symm;have W:=C.congr I R;have IN:=d7 (z:=z) λp l=>R p.1 (K p l);have Z:Gn v E _ E=if∀p∈z,Bs v p then 1 else 0:=Jc _ _ _;have EQ:(if∀p∈z,Bs v p then(1:Int)else 0)=0\/(if∀p∈z,Bs v p then(1:Int)else 0)=1:=by
  by_cases e:∀p∈z,Bs v p;·show J (AG e) ?_;show .inr rfl
  ·show J (AF e) ?_;show .inl rfl
 show⟨_,λx A=>(R x A).symm,⟨λD N=>?_,λx A=>?_⟩⟩
 ·rcases Cp.mp N with q|q;·show W.BD D q
  ·show(Db _ (w _ W) (J Z EQ)).mpr (J Z ?_) D q;rewrite[<-IN];by_cases e:∀p∈z,Bs v p;·show J (AG e) ?_;show⟨λG=>e,λG=>rfl⟩
   ·show J (AF e) ?_;show⟨λh=>absurd h (by decide),λh=>absurd h e⟩
 ·by_cases q:x<c.vars.length;·show J (G9 i q) ?_;show W.FV x q
  ·have:x=E:=by show GR (lf A (lf (AY S) (lf (AY L.symm) (by simp+arith)))) (lf (AY L) (lf (DP q) (by simp+arith)))
   show J this (J F (J Z (P7 EQ)))
def e9(I:Iv B0 Q0 c d)(s:Jj c d z)(G:Iq z)(D:AB z c B f){y:Prop}(r:∀j,Cons B0 Q0 c d f j (λQ=>True)->TD B0 f B->(∀v,An f j v->(BF v B↔∀p∈z,Bs v p))->y):y:=by cases D with|Kd h E x a=>show fE I s h x λj b l q=>r j b (BX a▸l) (BX a▸q)|LL h E x a=>show e' I s h x λj b l q=>r j b (BX a▸l) (BX a▸q)|hit E a h u=>show CW (I.made _ _ (λh=>h) h) λN O M e=>r d (BX u▸Cons.rfl I) (BX a▸BX u▸⟨N,e (.inr (.inr rfl)),O⟩) (BX a▸BX u▸λv a=>(Vn.mp (M v a)).2)|mix E a h L m A C=>show fD I s G L A C λj b l q=>r j b (BX a▸l) (BX a▸q)
def fA{l:List _}(I:Iv B0 Q0 c d)(D:∀x∈l,CA c d x)(Y:l.length<63)(h:HI (some q) c B f)(u:∀v:_,(∀p∈q,Bs v p)↔∀x∈l,BF v x)(M:∀p∈q,Cd p∈l)(AC:q.length<=l.length)(Q:Iq q){C:Prop}(A:∀j,Cons B0 Q0 c d f j (λs=>True)->CA f j B->((∀x∈l,TD B0 c x)->TD B0 f B)->(∀v,An f j v->(BF v B↔∀x∈l,BF v x))->C):C:=by cases q with|nil=>show A d (BX h.2▸Cons.rfl I) (BX h.1▸trivial) (λs=>BX h.1▸trivial) λv s=>BX h.1▸⟨λs=>(u v).mp λs h=>absurd h Cu,λs=>rfl⟩|cons p r=>cases r with|nil=>have e:=h;have N:=M p AR;show A d (BX e.2▸Cons.rfl I) (BX e.1▸BX e.2▸D _ N) (λT=>BX e.1▸BX e.2▸T _ N) λv s=>BX e.1▸⟨λh=>(u v).mp λy b=>BX (As.mp b)▸h,λh=>(u v).mpr h p AR⟩|cons m r=>show AJ h λz a O=>e9 I ⟨λy b=>D _ (M y (a.mem_iff.mp b)),λe=>Jy _ (a.length_eq.symm.trans (AE _ e)),Ai (AQ (AY a.length_eq) AC) Y⟩ (λx G=>Q x ⟨a.mem_iff.mp G.1,a.mem_iff.mp G.2⟩) O λj i L k=>A j i L.Er (λs=>L) λv g=>(k v g).trans (Iff.trans ⟨λh y b=>h y (a.mem_iff.mpr b),λh y b=>h y (a.mem_iff.mp b)⟩ (u v)) 
def Qt{l:List Val}(I:Iv B0 Q0 c d)(r:∀x∈l,CA c d x)(D:l.length<63)(h:AO l c B f){b:Prop}(y:∀j,Cons B0 Q0 c d f j (λC=>True)->CA f j B->((∀x∈l,TD B0 c x)->TD B0 f B)->(∀v,An f j v->(BF v B↔∀x∈l,BF v x))->b):b:=by have a:=ec l [] λx L=>(r x L).DU;have h:HI (Dk [] l) c B f:=h;have u:=Qo l [];have s:=eb l [];generalize Dk [] l=M at h a u s;have A:∀v:Nat->Int,∀p∈([]:List (Nat×Bool)),Bs v p:=λv p h=>absurd h Cu;cases M with|none=>have e:B=.bool false/\f=c:=h;show y d (BX e.2▸Cons.rfl I) (BX e.1▸trivial) (λC=>BX e.1▸trivial) λv C=>BX e.1▸⟨λh=>AX h,λh=>absurd ⟨A v,h⟩ (a v)⟩|some q=>show fA I r D h (λv=>(a.1 v).trans ⟨λh=>h.2,λh=>⟨A v,h⟩⟩) (λp G=>(a.2 p G).resolve_left Cu) (AQ (u q rfl) (AY (Nat.zero_add _))) (s q (λx h=>absurd h.1 Cu) rfl) y
end
end
structure Gu(c:GS)(w:Val):Prop where
 nv:NV B0 c w
 b: -1000<=(BQ c w).1/\(BQ c w).2<=1000
section
mutual
open A
variable{D:Nat->Prop}{Q:CV->Prop}{c f o g l:GS}{d j n:List Told}{v w:Nat->Int}{k:CV}{H:BR}{t:Told}{E i:Nat}{F:(Nat->Int)->Int}{B:Val}{e:List Val}
def Zk:∀(b)(lo q),(∀p∈b,Ad f p.1=Ad c p.1)->Bc f b lo q=Bc c b lo q:=by intro b;induction b with|nil=>intro m m m;show rfl|cons m b r=>obtain⟨x,a⟩:=m;intro lo q h;show(?_:Bc f b _ _=_);show J (h _ AR) (r _ _ λp s=>h p (Ah _ s))
def e3(q:∃m,f.vars=c.vars++m)(h:NV D c x):BQ f x=BQ c x:=Ac q λm a=>Zk _ _ _ λp b=>G9 a (h.lt p b).1
def Gu.up(a:∃m,f.vars=c.vars++m)(h:Gu c x):Gu f x:=⟨h.nv.up a,J (e3 a h.nv) h.b⟩
def fK:∀{e}{u}{c:GS}{d},Iv B0 Q0 c d->(∀w∈e,Gu c w)->FP e u c f->∀{q:Prop},(∀j,Cons B0 Q0 c d f j (λb=>True)->(∀x∈u,x<f.vars.length)->u.length=e.length->(∀v,An f j v->∀p,p<e.length->v (u.getD p 0)=(e.getD p (.int 0)).at v)->q)->q:=by intro e;induction e with|nil=>intro u c d I b h q G;show G d (BX h.2▸Cons.rfl I) (BX h.1▸CP _) (BX h.1▸rfl) λb b p h=>absurd h (HW _)|cons x e O=>
  intro u c d I M h q G;show Il h λy r l z T Y=>?_;subst z;have N:=M x AR;show Qw I (λb b h=>h) (λh=>h) N.nv N.b T λn C t E B=>O C.inv (λw h=>(M w (Ah _ h)).up C.vs) Y λD s i k o=>G D (C.trans s (λb b b b=>b) λb b b=>⟨b,λb b b=>trivial⟩) (λa A=>?_) (AE (·+1) k) λv L p g=>?_
  ·show mc A ?_ λA=>?_;·(show Ac s.vs λm z=>?_);(show J z ?_;show J Bp ?_);show(AZ t (A2 _ _))
   ·show i a A
  ·cases p with|zero=>show B v (L.down s.vs s.tx)|succ p=>show o v L p (HV g)
def Va(h:KV x=true):x.at v=x.c/\BQ c x=(x.c,x.c):=by cases x with|int i=>show⟨Js _,rfl⟩|bool b=>show⟨Js _,rfl⟩|sum=>show AX h|bit=>show AX h
def dO:∀(p:List _)(I:BR),(p.foldl EW I).length<=I.length+p.length:=by intro p;induction p with|nil=>intro I;show Ag _|cons a p b=>intro I;show J B9 ?_;show lf (b (EW I a)) (lf (Wb I a) (by simp+arith)) 
def getD_map_int(b:List _)(a):DG ((b.map CV.int).getD a (.int 0))=b.getD a 0:=by show J G0 ?_;show J G0 ?_;show J D7 ?_;cases b[a]?<;>rfl
def dc(u:List _)(a):(DG ((u.map λ(x:Nat)=>CV.int x).getD a (.int 0))).toNat=u.getD a 0:=by show J G0 ?_;show J G0 ?_;show J D7 ?_;cases u[a]?<;>rfl
def getD_at{m:Type}{u:List m}{a:m}(h:b<u.length):u[b]?=some (u.getD b a):=by show J G0 ?_;show J (Cz h) rfl
def getD_mem{b:Type}{u:List b}{a:b}(h:m<u.length):u.getD m a∈u:=Ms (getD_at h)
def fC(I:Iv B0 Q0 c d)(Y:i<c.vars.length)(Do:e≠[])(hl:e.length<60)(M:∀w∈e,Gu c w)(s:∀v,An c d v->1<=v i/\v i<=e.length)(h:CO c i e B f){AC:Prop}(At:∀j,Cons B0 Q0 c d f j (λb=>True)->(∃E,E<f.vars.length/\B=if e.all Aj then .bit E true else .sum [(E,1)] 0)->(∀v,An f j v->B.at v=(e.getD (v i-1).toNat (.int 0)).at v)->AC):AC:=by
 (have hh:=h;show AJ hh λE F h=>?_;(skip));have V:∀v:Nat->Int,B.at v=v E:=λv=>by show J F ?_;cases e.all Aj with|true=>show(?_:1*v E+0+0=v E);show by simp+arith|false=>show(?_:1*v E+0+0=v E);show by simp+arith
 have z:∀v,An c d v->(v i-1).toNat<e.length:=λv a=>by have:=s v a;show Ie (Aa this.1 (by simp+arith)) (Aa this.2 (by simp+arith))
 rcases h with⟨FM,H⟩|⟨G,l,lo,Go,FS,W,⟨T,N,rfl⟩,⟨Fs,Fa,rfl⟩,H⟩
 ·have S:=λw h=>DD.mp FM w h;have L:(e.map Val.c).length=e.length:=Al ..;have EQ:∀R∈e.map Val.c,-1000<=R/\R<=1000:=λR X=>by show AJ (Ar.mp X) λw N Gc=>?_;clear X;obtain rfl:=Gc;have:=(M w N).b;replace this:=(Va (v:=λb=>0) (S w N)).2▸this;show this
  show AV (dW (λy=>Do (GQ.mp y)) EQ) λCh Db=>?_;have Ev:=by have:=dO (sortI (e.map Val.c)) [];rw[(sortI_perm _).length_eq,L,List.length_nil]at this;show(?_:((sortI (e.map Val.c)).foldl EW []).length<1000);show lf this (lf hl (by simp+arith))
  have tv:∀v,An c d v->D2 v (.eof i (e.map Val.c) c.vars.length)=some ((e.map Val.c).getD (v i-1).toNat 0):=λv a=>by show(?_:(if 1<=v i/\v i<=_ then _ else none)=_);show J (AG (J L (s v a))) (getD_at (J L (z v a)))
  (show Ka (F:=λv=>(e.map Val.c).getD (v i-1).toNat 0) (B:=λE=>.eof i (e.map Val.c) E) I (λh=>h) (λh=>h)
    {hd:=Ch
     hl:=Ev
     ok:=⟨J L (AZ hl (Ay _ _)),Dd Y⟩
     tv:=λx s=>by show mc s (.inr ⟨Y,λh=>h⟩) λs=>.inl (As.mp s)
     zt:=Ah _ AR
     cg:=λv w y=>J (y i Y) rfl
     dm:=λv a=>Db _ (getD_mem (J L (z v a)))
     hh:=λv a=>by show(?_:(match D2 v _ with|none=>false|some O=>_)=true↔_);show J (tv v a) ?_;show A5
     fo:=λv a b=>by show(?_:(if _==(c.vars.length:Int)then _ else none)≠none);show J (AG (EN _)) (J (tv v a) λh=>Ce h)
     kd:=λh=>by rcases h with h|h|h<;>cases h} λv a O=>by show(?_:O=DG (((e.map Val.c).map CV.int).getD (v i-1).toNat (.int 0))↔_);rw[getD_map_int] H λj C K Fk P b=>?_);show At j C ⟨E,K,F⟩ λv a=>?_;have A:=a.down C.vs C.tx;have k:=getD_mem (a:=Val.int 0) (z v A);show J (V v) (J (P v a) (J (Va (c:=c) (S _ k)).1 (J G0 ?_)));show J D7 ?_;show J (getD_at (a:=Val.int 0) (z v A)) rfl
 ·show fK I M FS λn u o t D=>?_;have g:i<l.vars.length:=by(show Ac u.vs λm y=>?_);(show J y ?_;show J Bp ?_);show AZ Y (A2 _ _)
  have tv:∀v,An l n v->D2 v (.Di i G l.vars.length)=_:=λv a=>by show(?_:(if 1<=v i/\v i<=G.length then _ else none)=_);show J (AG (J t (s v (a.down u.vs u.tx)))) (J (getD_at (a:=0) ((λv a=>J t (z v (a.down u.vs u.tx)):∀v,An l n v->(v i-1).toNat<G.length) v a)) rfl)
  (show Ka (F:=λv=>v (G.getD (v i-1).toNat 0)) (B:=λE=>.Di i G E) u.inv (λh=>h) (λh=>h)
    {hd:=⟨Dt _ _,λp Q=>by show J (As.mp Q) ?_;show⟨BB _,BE (LQ c T.ps T.c T.c (BB _)) (W T N).2,BB _,(M T N).b.1,(M Fs Fa).b.2⟩⟩
     hl:=by show(?_:1<1000);decide
     ok:=⟨J t (AZ hl (Ay _ _)),Dd g,λh=>HU _ (o _ h)⟩
     tv:=λx s=>by
      show mc s ?_ λs=>?_;·show .inr ⟨g,λh=>h⟩
      ·show mc s (.inl rfl) λs=>.inr ⟨o x s,λh=>h⟩
     zt:=Ah _ AR
     cg:=λv w y=>by
      show J (y i g) ?_;by_cases q:(w i-1).toNat<G.length;·show y _ (o _ (getD_mem q))
      ·show J G0 ?_;show J (H8 (DP q)) ?_;show y 0 (by show Ai (De _) g)
     dm:=λv a=>by
      have A:=a.down u.vs u.tx;have k:=getD_mem (a:=Val.int 0) (z v A);have q:=L5 I A λp Q=>((M _ k).nv.lt p Q).1;have r:=W _ k;show⟨_,AR,?_,?_⟩;·show J (D v a _ (z v A)) ?_;show BE r.1 q.1
      ·show J (D v a _ (z v A)) ?_;show BE q.2 r.2
     hh:=λv a=>by show(?_:(match D2 v _ with|none=>false|some O=>_)=true↔_);show J (tv v a) ?_;show A5
     fo:=λv a b=>by show(?_:(if _==(l.vars.length:Int)then _ else none)≠none);show J (AG (EN _)) (J (tv v a) λh=>Ce h)
     kd:=λh=>by rcases h with h|h|h<;>cases h} λv a O=>by show(?_:O=v (DG ((G.map _).getD (v i-1).toNat (.int 0))).toNat↔_);rw[dc] H λj C K Fk P b=>?_);show At j (u.trans C (λb b b b=>trivial) λb b b=>⟨trivial,λb b b=>trivial⟩) ⟨E,K,F⟩ λv a=>?_;have Z:=a.down C.vs C.tx;show J (V v) (J (P v a) (J (D v Z _ (z v (Z.down u.vs u.tx))) rfl))
end
end
section
mutual
open A
variable{D:Nat->Prop}{Q:CV->Prop}{c a m g j:GS}{d e f:List Told}{v b:Nat->Int}{k:CV}{H:BR}{t:Val}{E i A n:Nat}{F:(Nat->Int)->Int}{B:Val}{l:List Val}
def I8(h:CA c d t)(q:An c d v):(BF v t↔t.at v=1)/\(t.at v=0\/t.at v=1):=by cases t with|int=>cases h|sum=>cases h|bool p=>clear h;cases p<;>show⟨⟨λh=>by(first|show AX h|cases h)<;>rfl,λh=>by first|rfl|cases h⟩,by first|show .inl rfl|show .inr rfl⟩|bit x s=>have:=h.2 v q;clear h;cases s with|true=>show J (by show(?_:1*v x+0+0=_);show by simp+arith:(Val.bit x true).at v=v x) ?_;show⟨FO,this⟩|false=>show J (by show(?_:-1*_+0+1=_);show by simp+arith:(Val.bit x false).at v=1-v x) ?_;show⟨(?_:v x=0↔_),this.elim (λo=>.inr (AE _ o)) λo=>.inl (AE _ o)⟩;(simp+arith;done)
def Rq(h:TD D c t)(G:∀x,x<c.vars.length->y x->D x):NV y c t/\-1000<=(BQ c t).1/\(BQ c t).2<=1000:=by cases t with|int=>cases h|sum=>cases h|bool u=>show⟨⟨CP _,by show(?_:0<_);decide,CP _⟩,by show(?_:_<=Bu u);clear h;cases u<;>decide,by show(?_:Bu u<=_);clear h;cases u<;>decide⟩|bit x s=>
  show BG h λr C I=>?_;(try clear h);have w:CF (Ad c x)=0:=J C rfl
  have z:CH (Ad c x)=1:=J C rfl;cases s with|true=>
   show⟨⟨λp o=>J (As.mp o) ⟨r,λq=>I (G x r q)⟩,by show(?_:1<_);decide,λp o=>J (As.mp o) (by decide:(1:Int).natAbs<=1000000)⟩,?_,?_⟩;·show(?_:-1000<=0+_);(show J w ?_;show J z ?_);decide
   ·show(?_:0+max _ (1*CH _)<=_);(show J w ?_;show J z ?_);decide|false=>
   show⟨⟨λp o=>J (As.mp o) ⟨r,λq=>I (G x r q)⟩,by show(?_:1<_);decide,λp o=>J (As.mp o) (by decide:(-1).natAbs<=1000000)⟩,?_,?_⟩;·show(?_:-1000<=1+_);(show J w ?_;show J z ?_);decide
   ·show(?_:1+max _ (-1*_)<=_);(show J w ?_;show J z ?_);decide
def VO.made(h:VO c B x a)(C:kindOf k≠0):BK a.made k=BK c.made k:=by have s:∀u r,¬k=sumK u r:=λu r w=>C (AE kindOf w);have p:∀{q o:GS},q=o->BK q.made k=BK o.made k:=λh=>AE (λq:GS=>BK q.made k) h;cases h with|one h z=>show p z|new h y G=>show G.elim (λo=>p o.2) λo=>(p o.2.2).trans (Nf _ _ _ _ (s _ _))|con y h=>show h.elim (λo=>p o.2) λo=>(p o.2.2).trans (Nf _ _ _ _ (s _ _))
def d6(h:CA c d t):Hl v (MZ t)↔BF v t:=by cases t with|int=>cases h|sum=>cases h|bool o=>show(?_:Bu o=1↔o=true);clear h;cases o<;>decide|bit x s=>show FO
open Classical in
def VI(I:Iv D Q c d)(At:∀Db i,¬Q (sumK Db i))(AC:¬D c.vars.length)(EQ:TD D c t)(V:VO c t x g)(Do:r.eq=true)(N:HZ r)(M:∀B∈r.xs,B<c.vars.length){z:Prop}(Ch:∀e,(Cons D Q c d (CU g (IP x r)) e λv=>t.at v=0\/B2 v r=true)->Told.imp x r∈e->x<g.vars.length->¬D x->(∀v,An (CU g (IP x r)) e v->v x=t.at v)->(∀v b,(∀A,A<c.vars.length->v A=b A)->t.at v=0\/B2 v r=true->t.at b=0\/B2 b r=true)->z):z:=AV (Rq EQ λO O h=>h) λL l=>Qw I At AC L l V λf w C T s=>have p:=Od (t:=.imp x r) w.inv ⟨N,Do⟩ λB j=>(Cp.mp j).elim (λh=>Ac w.vs λm o=>J o (J Bp (AZ (M B h) (A2 _ _)))) λh=>J (As.mp h) C;have G:=λv=>GD.trans (or_congr A5 FO);have tr:=λv b o=>Or.imp (LO L o).symm.trans (QT (t:=.row r) N λA u=>o A (M A u)).symm.trans;Ch _ (w.trans p (λv q O Y=>((G v).mp Y).imp (s v (q.down p.vs p.tx)).symm.trans id) λv q a=>⟨trivial,λy o k=>(G y).mpr ((tr v y (λA u=>(o A u).symm) a).imp (s y k).trans id)⟩) (Bx _ AR) C T (λv q=>s v (An.down p.vs p.tx q)) tr
def VH(o:E≠x)(h:v x=1)(p:F8 v r E≠none):EU v E (.imp x r)≠none:=by show(?_:(if _&&_ then _ else _)≠_);show J (AG (Bool.and_eq_true_iff.mpr ⟨AE _ (I9.mpr λq=>o (Ec q)),A5.mpr h⟩)) p
def Qp:(withVar c k H).vars.length=c.vars.length+1:=Bp ..
def j7{k:CV}{H:BR}(I:Iv B0 Q0 c d)(q:Cons (λx=>x=c.vars.length) (λx=>x=k) (withVar c k H) (d++[]) y L C)(At:¬(kindOf k=1\/kindOf k=2\/kindOf k=3))(Db:∀v,An y L v->I0 k (v c.vars.length) v)(AC:Done y L c.vars.length)(Ch:BK y.made k=some (.int c.vars.length))(F:∀v,An c d v->∃w,E8 w H/\C (Gn v c.vars.length w)):(Cons B0 Q0 c d y L λu=>True)/\c.vars.length<y.vars.length:=by
 have r:=q.inv;have a:_<(withVar c k H).vars.length:=IA (Cq _) Qp.symm;have O:_<y.vars.length:=Ac q.vs λz p=>J p (J Bp (AZ a (A2 _ _)));show⟨⟨⟨r.Ig,r.FU,r.tok,λx s u=>?_,λB x u N=>?_,r.three,r.d0,r.d1,r.d2,λu u h=>h⟩,Ac q.vs λz p=>⟨_,p.trans (DN ..)⟩,Ac q.tx λz p=>⟨_,p.trans (DN ..)⟩,λu u=>trivial,λv Y u=>AJ (F v Y) λw g f=>?_⟩,O⟩
 ·by_cases p:x=c.vars.length;·show p▸AC
  ·show r.done x s p
 ·by_cases p:B=k;·have G:=Ec (AP (AE (λo:_=>o.bind intOf) ((p▸N:BK _ k=some (.int _)).symm.trans Ch)));show G▸p▸⟨O,λh=>h,Db,λh=>absurd h At⟩
  ·show CW (r.made B x p N) λb u z w=>⟨b,λh=>h,z,w⟩
 ·have M:∀x,_->_=Gn v c.vars.length w x:=λx s=>(Kt _ s).symm;have T:=Y.congr I M;show AJ (q.ext _ ⟨λB j=>T.BD B (Bv d▸j),λx s=>?_⟩ f) λl e i=>⟨l,λx s=>(e x (Br s a)).trans (M x s).symm,i⟩;by_cases p:x<c.vars.length;·show J (G9 rfl p) (T.FV x p)
  ·have G:x=c.vars.length:=GR (G3 (IA s Qp)) (DP p);show G▸(J Ld (J (Jc v _ w) g):E8 (Gn v c.vars.length w c.vars.length) (Ad _ _))
def fI(I:Iv B0 Q0 c d)(AC:A<c.vars.length)(M:TD B0 c t)(At:1<=n/\n<=1000)(L:∀v,An c d v->BF v t->1<=v A/\v A<=n)(h:SD c A t [(1,(n:Int))] E a){Ch:Prop}(Db:∀e,(Cons B0 Q0 c d a e λy=>True)->E<a.vars.length->(∀v,An a e v->(BF v t->v E=v A)/\(¬BF v t->v E=1))->Ch):Ch:=by
 have S:=λv T=>by show(?_:(Hl v (MZ t)->T=v A)/\(¬Hl v (MZ t)->T=1)↔_);rw[d6 (M.Er (d:=d))]
 rcases h with⟨K,rfl⟩|⟨K,rfl,No,j,Ok,On,Ev,FM,rfl⟩;·show CW (I.made _ _ (λh=>h) K) λz g C y=>Db d (Cons.rfl I) z λv u=>(S v _).mp (C v u)
 ·have F:∀W T,¬sumK W T=Ib A t [(1,(n:Int))]:=λW T o=>Jy 5 (AE kindOf o).symm;have Do{a:GS}{t:Val}(h:TD B0 c t)(u:∃C,a.vars=c.vars++C):TD (λx=>x=c.vars.length) a t:=by have:=h.up u;cases t with|int=>cases h|sum=>cases h|bool=>trivial|bit x s=>show⟨this.1,this.2.1,Av h.1⟩
  have N:c.vars.length<(withVar c (Ib A t [(1,(n:Int))]) [(1,(n:Int))]).vars.length:=IA (Cq _) Qp.symm;have X:∀v,B2 v ⟨true,[1,-1],[c.vars.length,A],0⟩=true↔v c.vars.length=v A:=λv=>by show(?_:(1*v c.vars.length+(-1*v A+0)==0)=true↔_);rw[A5,Int.one_mul,HP,Int.neg_one_mul];show Int.sub_eq_zero
  have Z:∀v,B2 v ⟨true,[1],[c.vars.length],1⟩=true↔_:=λv=>by show(?_:(1*v c.vars.length+0==1)=true↔_);rw[A5,Int.one_mul,HP]
  have Fa:Iv _ (λx=>x=Ib A t [(1,(n:Int))]) (withVar c _ [(1,(n:Int))]) (d++[]):=Oq (l:=[]) I ⟨Dt _ _,λp M2=>J (As.mp M2) ⟨BB _,(IM At.1:(1:Int)<=n),BB _,(by decide:(-1000:Int)<=1),(IM At.2:(n:Int)<=1000)⟩⟩ (by decide:1<1000) (λy y y h=>h) (λy y y h=>h) (λx O o=>absurd o (Av O)) (λy h=>absurd h Cu) _ rfl rfl (Bv _).symm (λh=>absurd rfl h) λh=>absurd rfl h;show VI (r:=⟨true,[1,-1],[c.vars.length,A],0⟩) Fa F (Dd N) (Do M ⟨_,rfl⟩) Ev rfl ⟨rfl,(by decide:2<1000),(by decide:∀z∈[(1:Int),-1],z.natAbs<=1000000)⟩ (Bo.mpr ⟨N,HS.mpr (Br AC N)⟩) λf k m1 Fk D Fs Ps=>?_;have P:=Ac k.vs λC o=>IA (AZ N (A2 _ _)) ((AE List.length o).trans Bp).symm;show VI (r:=⟨true,[1],[c.vars.length],1⟩) (t:=CS t) k.inv F (Dd P) (Do M.flip (Ac k.vs λC o=>⟨_,o.trans (DN ..)⟩)) FM rfl ⟨rfl,(by decide:1<1000),(by decide:∀z∈[(1:Int)],z.natAbs<=1000000)⟩ (HS.mpr P) λEQ Y R b1 b2 Gc Re=>?_;have H:∀v b:Nat->Int,_->t.at v=t.at b/\_:=λv b o=>⟨LO (Rq (y:=B0) M λy y h=>h).1 o,LO (Rq (y:=B0) M.flip λy y h=>h).1 o⟩;have q:Cons _ _ _ _ _ _ λv=>_/\_:=k.trans Y (λy y z g=>⟨z,g.imp id (Z _).mp⟩) λv u G=>⟨G.1,λNE o Op=>G.2.imp ((H NE v λx O=>o x (Br O N)).2).trans λh=>(Z _).mpr ((o _ N).trans h)⟩;have l:∀v,An c d v->_/\_:=λv u=>⟨(I8 M.Er u).1,(Na M.Er u).symm.trans (I8 (M.Er (d:=d)).flip u).1⟩;have B:∃C,_=c.vars++C:=Ac q.vs λC o=>⟨_,o.trans (DN ..)⟩;have m:∃C,EQ=d++C:=Ac q.tx λC o=>⟨_,o.trans (DN ..)⟩;have m1:=Ac Y.tx λC o=>o▸CZ _ m1;have V{i:Int}(z:i=0)(g:i=1):False:=nomatch z.symm.trans g;have FS:∀v,_->_/\_:=λv u=>have G:=l v (u.down B m);have s:=q.snd v u;⟨λh=>(X v).mp (s.1.resolve_left λz=>V z (G.1.mp h)),λh=>s.2.resolve_left λz=>V z (G.2.mp h)⟩;have Go:=P9 λv u=>by
   have G:=l v (u.down B m);by_cases o:BF v t;·show⟨_,m1,(q.inv.tok _ m1).1,AR,Bo.mpr ⟨.inl rfl,Bo.mpr ⟨.inr ((I.done A AC λh=>h).up B m),HS.mpr (.inr (q.inv.done No ((λh=>Ac Y.vs λC o=>IA (AZ h (A2 _ _)) ((AE List.length o).trans Bp).symm) Fk) D))⟩⟩,VH (λh=>D h.symm) ((Fs v (u.down Y.vs Y.tx)).trans (G.1.mp o)) (RX (B:=1) (J GO (J (AG (EN _)) (J GO (J (AF (fT (I9.mpr λq=>Av AC (Ec q)))) rfl)))) (.inl rfl))⟩
   ·show⟨_,R,(q.inv.tok _ R).1,AR,Bo.mpr ⟨.inl rfl,HS.mpr (.inr (q.inv.done Ok b1 b2))⟩,VH (λh=>b2 h.symm) ((Gc v u).trans (G.2.mp o)) (RX (B:=1) (J GO (J (AG (EN _)) rfl)) (.inl rfl))⟩
  have r:=j7 I q (λh=>by rcases h with h|h|h<;>cases h) (λv u=>(S v _).mpr (FS v u)) Go ((FM.made λh=>by cases h).trans ((Ev.made λh=>by cases h).trans (Ng _ _ _))) λv u=>?_;·show Db EQ r.1 r.2 FS
  ·have G:=l v u;have Q:∀w:Int,1<=w->w<=n->t.at v=0\/w=v A->(CS t).at v=0\/w=1->∃w,E8 w [(1,(n:Int))]/\(t.at _=0\/B2 _ _=true)/\((CS t).at _=0\/Gn v c.vars.length w c.vars.length=1):=λw H1 IN Ix JP=>have o:=H (Gn v c.vars.length w) v λx O=>Kt w O;⟨w,⟨_,AR,H1,IN⟩,Ix.imp o.1.trans λh=>(X _).mpr ((Jc v _ w).trans (h.trans (Kt w AC).symm)),JP.imp o.2.trans (Jc v _ w).trans⟩;by_cases o:BF v t;·show Q (v A) (L v u o).1 (L v u o).2 (.inr rfl) (.inl ((I8 (M.Er (d:=d)).flip u).2.resolve_right λh=>G.2.mpr h o))
   ·show Q 1 (BB _) (IM At.1) (.inl ((I8 M.Er u).2.resolve_right λh=>o (G.1.mpr h))) (.inr rfl)
end
end
mutual
open A
def inside(a:Zs)(v:Nat->Int):Prop:=∀z∈a,z.1.1<=z.2.at v/\z.2.at v<=z.1.2
def C5(v:Nat->Int):Zs->Int->Int|[],p=>p|z::r,p=>C5 v r (z.2.at v-z.1.1+(z.1.2-z.1.1+1)*p)
structure G2(c:GS)(zs:Zs)(ws:List Val):Prop where
 z:∀z∈zs,Am c 100 2 z.2/\Ep z.1
 p:Am c 900 8 (Dx zs (.int 0))/\Gu c (Bl (Dx zs (.int 0)) (.int 1) 1)
 w:∀w∈ws,Am c 100 2 w/\Gu c w
 h0:ws≠[]
 hl:ws.length<60
 ln:(ws.length:Int)=Dz 1 (zs.map λz=>z.1)
 zl:zs.length<30
end
section
mutual
open A
variable{D:Nat->Prop}{Q:CV->Prop}{c l r g q:GS}{d o s:List Told}{v e:Nat->Int}{k:CV}{H:BR}{t:Val}{E i A n:Nat}{F:(Nat->Int)->Int}{B:Val}{f:List Val}{b:Zs}{j:Int}{M:Nat}
def T2(h:Ad c x≠[]):x<c.vars.length:=by show Ac (P8 h) λm a=>(Jt.mp a).1
def Am.zz(h:Am c j M x)(m:j<=1000000)(u:M<900):NZ c x:=⟨⟨λp a=>⟨T2 (h.dm p a),λh=>h⟩,Ai h.ln u,λp a=>Jr.mp (BE (Q7 a).1 (BE h.nr m))⟩,h.nz⟩
def gg(v):∀(b:Zs)(p)(j a)(M h),(∀E∈b,Am c j M E.2)->Am c a h p->(Dx b p).at v=C5 v b (p.at v):=by intro b;induction b with|nil=>intro p j a M h G G;show rfl|cons E C u=>intro p j a M h m y;show AV (Dy (w:=-1) (m E AR) (Am.int E.1.1 (BB _):Am c 0 0 _)) λw x=>AV (Dy (w:=E.1.2-E.1.1+1) w y) λb1 b2=>(?_:_=C5 v C _);show J (u _ j _ M _ (λB z=>m B (Ah _ z)) b1) ?_;rewrite[b2,x];congr 2;show(?_:_+-1*(0+E.1.1)=_);show by simp+arith 
def hY(v:Nat->Int)(b:Zs)(a:∀E∈b,Am c j M E.2):(∀e∈CB b,e.at v<=0)↔inside b v:=by induction b with|nil=>show iff_of_true (CP _) (CP _)|cons E u w=>show AV (Bo.mp a) λh a=>?_;have m:∀i:Int,Am c 0 0 (.int i):=λi=>Am.int i (BB _);have p:∀i,(Val.int i).at v=i:=λi=>Js _;have x:(∀e∈CB (E::u),e.at v<=0)↔(Bl (.int E.1.1) E.2 (-1)).at v<=0/\(Bl E.2 (.int E.1.2) (-1)).at v<=0/\∀e∈CB u,e.at v<=0:=Bo.trans (and_congr FO Bo);show x.trans ((and_congr (XB (((Dy (w:=-1) (m E.1.1) h).2 v).trans (AE (·+_) (p _)))) (and_congr (XB (((Dy (w:=-1) h (m E.1.2)).2 v).trans (AE (λi=>_+-1*i) (p _)))) (w a))).trans (and_assoc.symm.trans (Bo (p:=λE:(Int×Int)×Val=>E.1.1<=E.2.at v/\E.2.at v<=E.1.2)).symm))
def gh:∀(b:Zs)(p a),inside b v->0<=p->p<a->0<=C5 v b p/\C5 v b p<Dz a (b.map λE=>E.1):=by intro b;induction b with|nil=>intro p a N m u;show⟨m,u⟩|cons E L G=>
  intro p a w m u;show AV (w E AR) λz C=>?_;have y:0<=E.1.2-E.1.1+1:=Aa C (Aa z (by simp+arith));have m1:=Int.mul_nonneg y m;have h:=O8 (show p<=a-1 by show Aa u (by simp+arith)) y;rw[Int.mul_sub,Int.mul_one,Int.mul_comm _ a]at h;show G _ (a*(E.1.2-E.1.1+1)) (λB I=>w B (Ah _ I)) ?_ ?_;·generalize _=x at m1⊢;show Aa m1 (Aa z (by simp+arith))
  ·generalize _*p=x at m1 h⊢;generalize _=A at h⊢;show Aa h (Aa C (by simp+arith)) 
def G2.rows(m:G2 c b f):(∀e∈CB b,NZ c e)/\∀v,(∀e∈CB b,e.at v<=0)↔inside b v:=⟨λe h=>((Kf (by decide) λE a=>(m.z E a).1).1 e h).zz (by decide) (by decide),λv=>hY v b λE a=>(m.z E a).1⟩
def G2.at(m:G2 c b f)(v):(Dx b (.int 0)).at v=C5 v b 0:=by show J (gg v b _ _ 0 2 0 (λE a=>(m.z E a).1) (Am.int 0 (BB _))) rfl
def G2.rg(m:G2 c b f)(h:inside b v):0<=C5 v b 0/\C5 v b 0<f.length:=J m.ln (gh b 0 1 h (BB _) (by decide))
def S0(I:Iv B0 Q0 c d)(m:G2 c b f)(h:anyF c (CB b)=true)(T:An c d v):¬inside b v:=λN=>by show AJ (Ds.mp h) λe C w=>?_;have G:=m.rows.1 e C;have z:=(m.rows.2 v).mpr N e C;have y:=L5 I T λp O=>(G.nv.lt p O).1;cases a:rowF _ _ _ _ _ with|row g=>rw[a]at w;show AX w|so x=>
  rw[a]at w;have L:x=false:=by clear a;cases x<;>first|rfl|show AX w
  replace a:=L▸a
  unfold rowF at a;cases u:dec _ _ _ with|some Y=>
   rw[u]at a;have:=by injection a
   rw[this]at u;have:=(P4 y.1 y.2 u).mpr z;show AX this|none=>replace a:=u▸a;show(Ra G.nz (KA u) a).2 v z
structure Jz(c:GS)(ts:List Told)(ws:List Val)(u:Val):Prop where
 t:(∀w∈ws,Aj w=true)->CA c ts u
 n:(∀w∈ws,Aj w=false)->Aj u=false/\Am c 100 2 u
def jv(O:∀e∈f,Am c 100 2 e)(w:∀e∈f,Aj e=true->CA c d e)(N:∃m,l.vars=c.vars++m)(L:∃m,o=d++m)(T:E<l.vars.length)(I:Ad l E≠[])(u:B=if f.all Aj then .bit E true else .sum [(E,1)] 0)(G:f≠[])(x:∀v,An l o v->∃e∈f,v E=e.at v):Jz l o f B:=by
 show⟨λh=>J u (J (AG (DD.mpr h)) ⟨T,λv y=>AJ (x v y) λe z C=>J C (I8 (w e z (h e z)) (y.down N L)).2⟩),λh=>?_⟩
 ·have:f.all Aj=false:=by clear O w u x;cases f with|nil=>show absurd rfl G|cons e Y=>(show J H7 ?_;show J (h e AR) ?_);rfl
  show J u (J this ⟨rfl,⟨DO.mpr ⟨λh=>(by cases h),G1⟩,λp a=>J (As.mp a) (by decide:(1:Int)≠0),λp a=>J (As.mp a) I,by show(?_:(1:Int)+0<=_);decide,by show(?_:1<=2);decide⟩⟩)
def Am.Ku(w:∃m,l.vars=c.vars++m)(h:Am c j M x):Am l j M x:=⟨h.nd,h.nz,λp a=>by(show Ac w λm u=>?_;(skip));show J (G9 u (T2 (h.dm p a))) ?_;show h.dm p a,h.nr,h.ln⟩
def Om(p:∃m,l.vars=c.vars++m)(w:∃m,o=d++m)(x:∀e∈f,Am c 100 2 e)(u:∀e∈f,Aj e=true->CA c d e)(a:B∈f):Jz l o f B:=⟨λh=>(u B a (h B a)).up p w,λh=>⟨h B a,(x B a).Ku p⟩⟩
end
end
section
mutual
open A
variable{D:Nat->Prop}{Q:CV->Prop}{c f l g o:GS}{d b j:List Told}{v w:Nat->Int}{k:CV}{H:BR}{t:Val}{E i A n:Nat}{F:(Nat->Int)->Int}{B p:Val}{a:List Val}{e:Zs}{q:Int}{M:Nat}
def aX(h:B=if a.all Aj then .bit E true else .sum [(E,1)] 0)(v):B.at v=v E:=by show J h ?_;cases a.all Aj with|true=>show(?_:1*v E+0+0=_);show by simp+arith|false=>show(?_:1*v E+0+0=_);show by simp+arith 
def Vj(I:Iv B0 Q0 c d)(Ev:Am c q M p)(At:Gu c (Bl p (.int 1) 1))(FM:TD B0 c t)(Y:a≠[])(Ch:a.length<60)(Db:∀w∈a,Am c 100 2 w/\Gu c w)(EQ:∀w∈a,Aj w=true->CA c d w)(L:∀v,An c d v->BF v t->0<=p.at v/\p.at v<a.length)(h:ET c p t a B f){AC:Prop}(Do:∀b,Cons B0 Q0 c d f b (λm=>True)->Jz f b a B->(∀v,An f b v->BF v t->B.at v=(a.getD (p.at v).toNat (.int 0)).at v)->AC):AC:=by
 show ET.casesOn h λx o z T Q FS W=>?_;clear h;have A:=List.length_pos_iff.mpr Y;show Qw I (λm m h=>h) (λh=>h) At.nv At.b Q λj s i m N=>?_;have n:∀v,(Bl p (.int 1) 1).at v=p.at v+1:=λv=>by show J ((Dy Ev (Am.int (D:=1) (M:=0) 1 (by decide))).2 v) rfl
 have e:∀v,An o j v->_->1<=v x/\v x<=a.length:=λv r h=>by have:=L v (r.down s.vs s.tx) h;show J (N v r) ?_;rewrite[n];show⟨Aa this.1 (by simp+arith),Aa this.2 (by simp+arith)⟩
 have Fa:∃y,Cons B0 Q0 o j T y (λm=>True)/\z<T.vars.length/\∀v,An T y v->(1<=v z/\v z<=a.length)/\(BF v t->v z=v x):=by
  clear L Do Q m N;rcases FS with⟨rfl,rfl,rfl⟩|⟨_,Z⟩;·show⟨j,Cons.rfl s.inv,i,λv r=>⟨e v r rfl,λm=>rfl⟩⟩
  ·show fI s.inv i (FM.up s.vs) ⟨A,AQ (BH Ch) (Ay _ _)⟩ e Z λy b1 b2 O=>⟨y,b1,b2,λv r=>⟨?_,(O v r).1⟩⟩;by_cases g:BF v t;·show J ((O v r).1 g) ?_;show e v (r.down b1.vs b1.tx) g
   ·show J ((O v r).2 g) ?_;show And.intro (BB _) (IM A)
 show B3 Fa λy G b1 b2=>?_;have tr:∀{l S C:GS}{t1 t2 t3},Cons B0 Q0 l t1 S t2 _->_->Cons B0 Q0 l t1 C t3 _:=λP R=>P.trans R (λm m m m=>m) λm m m=>⟨m,λm m m=>trivial⟩;have K:=tr s G;show fC G.inv b1 Y Ch (λw h=>(Db w h).2.up K.vs) (λv r=>(b2 v r).1) W λFk u Fs C=>?_;rcases Fs with⟨E,F,H⟩;have k:=tr K u;show Do Fk k ?_ λv r X=>?_
 ·show jv (λw h=>(Db w h).1) EQ k.vs k.tx F ?_ H Y λv r=>?_;·show(k.inv.FU E F).1.1
  ·have:=(b2 v (r.down u.vs u.tx)).1;show⟨_,getD_mem (Ie (Aa this.1 (by simp+arith)) (Aa this.2 (by simp+arith))),Mine.AU (aX H v) (C v r)⟩
 ·have D:=r.down u.vs u.tx;have V:v z-1=p.at v:=by(show J ((b2 v D).2 X) ?_;show J (N v (D.down G.vs G.tx)) ?_;rewrite[n]);show by simp+arith
  show J (C v r) (J V rfl)
def Vi(I:Iv B0 Q0 c d)(m:G2 c e a)(AC:∀w∈a,Aj w=true->CA c d w)(h:Jn c e a B f){Ch:Prop}(At:∀b,Cons B0 Q0 c d f b (inside e)->Jz f b a B->(∀v,An f b v->B.at v=(a.getD (C5 v e 0).toNat (.int 0)).at v)->Ch):Ch:=by
 rcases h with⟨l,rfl,G⟩|⟨l,o,H,h⟩
 ·(show Qu I λx L=>by show J (As.mp L) ?_;trivial G λb k=>?_);have q:∀v,¬_:=λv r=>by show AJ (k.snd v r) λx L t=>?_;rw[As.mp L]at t;show AX t
  show At b ⟨k.inv,k.vs,k.tx,λv r=>absurd r (q v),λv r z=>absurd z (S0 I m l r)⟩ (Om k.vs k.tx (λw h=>(m.w w h).1) AC (IY (i:=0) m.h0).2) λv r=>absurd r (q v)
 ·show fH I m.rows.1 H λj N=>?_;have s:Cons B0 Q0 c d o j _:=⟨N.inv,N.vs,N.tx,λv r=>(m.rows.2 v).mp (N.snd v r),λv r z=>N.ext v r ((m.rows.2 v).mpr z)⟩;rcases h with⟨i,z,rfl,G⟩|⟨F,i,z,E⟩
  ·(show Qu s.inv λx L=>by show J (As.mp L) ?_;trivial G λg y=>?_);have n:∀v,C5 v e 0=i:=λv=>Mine.AU (m.at v) (J z (Js _));have p:∀v,inside e v->inR i a=true:=λv C=>by have:=m.rg C;rw[n v]at this;unfold inR;show J (BC this.1) (J (BC this.2) rfl)
   show At g (s.trans y (λu u O u=>O) λv r C=>⟨C,λu u u=>⟨_,AR,p v C⟩⟩) (Om (y.vs.elim λQ Y=>s.vs.elim λm1 T=>⟨_,by(show J Y ?_;show J T ?_;rewrite[DN];rfl)⟩) (y.tx.elim λQ Y=>s.tx.elim λm1 T=>⟨_,by(show J Y ?_;show J T ?_;rewrite[DN];rfl)⟩) (λw h=>(m.w w h).1) AC (IY m.h0).1) λv r=>?_;show J (n v) ?_;unfold pick;show J (p v (s.snd v (r.down y.vs y.tx))) ?_;rfl
  ·show Vj (t:=.bool _) s.inv (m.p.1.Ku s.vs) (m.p.2.up s.vs) trivial m.h0 m.hl (λw h=>⟨(m.w w h).1.Ku s.vs,(m.w w h).2.up s.vs⟩) (λw h M=>(AC w h M).up s.vs s.tx) (λv G u=>J (m.at v) (m.rg (s.snd v G))) E λg y A D=>At g (s.trans y (λu u O u=>O) λv r C=>⟨C,λu u u=>trivial⟩) A λv r=>J (D v r rfl) (J (m.at v) rfl) 
def V'(v)(u:∀x∈r,Aj x=true):(∀x∈Fc r,BF v x)↔∀x∈r,BF v x:=by
 constructor
 ·intro h x m;by_cases s:Dq x (.bool true)=true;·show J ((MW (u x m)).mp s) ?_;rfl
  ·show h x (C9.mpr ⟨m,by cases y:Dq x _<;>first|rfl|show absurd y s⟩)
 ·showλh x m=>h x (C9.mp m).1
def Vh(I:Iv B0 Q0 c d)(m:G2 c e a)(O:∀w∈a,Aj w=true->CA c d w)(h:HN c e a B At f){AC:Prop}(Y:∀b,Cons B0 Q0 c d f b (λs=>True)->Jz f b a B->(∀x∈At,CA f b x)->(∀v,An f b v->((∀x∈At,BF v x)↔inside e v)/\(inside e v->B.at v=(a.getD (C5 v e 0).toNat (.int 0)).at v))->AC):AC:=by
 rcases h with⟨k,rfl,rfl,rfl⟩|⟨k,Ev,o,t,Do,q,R,h⟩;·show Y d (Cons.rfl I) (Om ⟨[],(Bv _).symm⟩ ⟨[],(Bv _).symm⟩ (λw h=>(m.w w h).1) O (IY (i:=0) m.h0).2) λx r=>by show J (As.mp r) ?_;trivial λv u=>?_;have:=S0 I m k u;show⟨⟨λh=>AX (h _ AR),λh=>absurd h this⟩,λh=>absurd h this⟩
 ·show Vk I m.rows.1 q λj D g M=>?_;have X:=(q.facts (O:=0)).2.2.2.2;have S:=(Kf (D:=100) (M:=2) (by decide) λE Z=>(m.z E Z).1).2;(show Qt D.inv (λx r=>(g x r).Er) (by(show J X ?_;show J S ?_);have:=m.zl;show lf this (lf this (by simp+arith))) R λCh G b1 b2 F=>?_);have tr:∀{l L N:GS}{t1 t2 t3},Cons B0 Q0 l t1 L t2 _->_->Cons B0 Q0 l t1 N t3 _:=λH Q=>H.trans Q (λs s s s=>s) λs s s=>⟨s,λs s s=>trivial⟩;have y:=tr D G;have z:=λv u=>(F v u).trans ((M v (u.down G.vs G.tx)).trans (m.rows.2 v));rcases h with⟨i,n,rfl,rfl,rfl⟩|⟨EQ,i,n,rfl,K⟩
  ·have p:∀v,C5 v e 0=i:=λv=>by(show Mine.AU (m.at v) ?_;show J n ?_);show Js _
   have A:∀v,inside e v->inR i a=true:=λv z=>by have:=m.rg z;rw[p v]at this;unfold inR;show J (BC this.1) (J (BC this.2) rfl)
   show Y Ch y (Om y.vs y.tx (λw h=>(m.w w h).1) O (IY m.h0).1) (λx r=>?_) λv u=>⟨?_,λT=>?_⟩
   ·have:=(C9.mp r).1;rcases BU.mp this with rfl|h;·show b1
    ·show J (As.mp h) ?_;trivial
   ·rw[V' v (Oj b1.DU rfl),<-z v u];constructor;·showλh=>h _ AR
    ·intro h x r;rcases BU.mp r with rfl|r;·show h
     ·show J (As.mp r) ?_;show A v ((z v u).mp h)
   ·show J (p v) ?_;unfold pick;show J (A v T) ?_;rfl
  ·show Vj G.inv (m.p.1.Ku y.vs) (m.p.2.up y.vs) (b2 g) m.h0 m.hl (λw h=>⟨(m.w w h).1.Ku y.vs,(m.w w h).2.up y.vs⟩) (λw h W=>(O w h W).up y.vs y.tx) (λv V P=>J (m.at v) (m.rg ((z v V).mp P))) K λDb C L N=>Y Db (tr y C) L (λx r=>?_) λv u=>⟨?_,λT=>?_⟩;·show J (As.mp (C9.mp r).1) ?_;show b1.up C.vs C.tx
   ·rw[V' v λx r=>J (As.mp r) b1.DU,<-z v (u.down C.vs C.tx)];show⟨λh=>h t AR,λh x r=>J (As.mp r) h⟩
   ·show J (N v u ((z v (u.down C.vs C.tx)).mpr T)) (J (m.at v) rfl)
end
end
structure SM(c:GS)(A C:Int)(L:Nat)(w:Val):Prop where
 FC:Am c A L w
 k3:∀p∈w.ps,p.1<3
 lo: -C<=w.c
 hi:w.c<=C
section
mutual
open A
variable{D:Nat->Prop}{Q:CV->Prop}{c I G g z:GS}{d N L:List Told}{v o:Nat->Int}{t:Int×Int×Int}{E i A n:Nat}{B a b:Val}{y:List Val}{e:Zs}{f r C q:Int}{M s:Nat}{l:Ca}
def Sv(j:-k<=x)(m:x<=k):x.natAbs<=k:=(Int.le_total 0 x).elim (λh=>BE (Cy (Int.natAbs_of_nonneg h)) m) λh=>BE (Cy (Int.ofNat_natAbs_of_nonpos h)) (Int.neg_le_of_neg_le j)
def MJ(k:SM c f C M a)(u:SM c r q s b)(AC:-m<=w)(At:w<=m)(Ch:0<=r)(Db:0<=q):SM c (f+m*r) (C+m*q) (M+s) (Bl a b w):=by
 have i:=(Dy (w:=w) k.FC u.FC).1;have H:=Sv AC At;have d:(Bl a b w).ps=_:=Q8 _ _;have T:(Bl a b w).c=_:=WD _ _;have j:(w*b.c).natAbs<=m*q:=by rw[Int.natAbs_mul,Int.natCast_mul];show Int.mul_le_mul H (Sv u.lo u.hi) (Co _) (BE (Co _) H)
 show⟨i.le (Jp (BB _) (Int.mul_le_mul_of_nonneg_right H Ch)) (Ag _),λp Y=>?_,?_,?_⟩
 ·rw[d]at Y;show BG (Nb w b.ps _ k.FC.nd) λe g l=>?_;rcases g _ ((RD e).2.2.2.1 _ (Ar.mpr ⟨p,Y,rfl⟩))with h|h;·show AJ (Ar.mp h) λj O x=>x▸k.k3 j O
  ·show AJ (Ar.mp h) λj O x=>x▸u.k3 j O
 ·rw[T,Int.neg_add];show Jp k.lo (BE (Jq j) (Int.neg_le_of_neg_le (Int.natAbs_neg _▸Int.le_natAbs)))
 ·rw[T];show Jp k.hi (BE Int.le_natAbs j)
def OQ{i}(h:-C<=i)(j:i<=C):SM c 0 C 0 (.int i):=⟨Am.int i (BB _),CP _,h,j⟩
def SM.le(h:SM c f C M a)(k:f<=r)(j:C<=q)(m:M<=s):SM c r q s a:=⟨h.FC.le k m,h.k3,by have:=h.lo;show Aa this (Aa j (by simp+arith)),by have:=h.hi;show BE this j⟩
def Qs{u:Nat->Prop}(h:u 0)(j:u 1)(k:u 2):∀{x},x<3->u x|0,_=>h|1,_=>j|2,_=>k
def N3(j:Iv D Q c d)(h:x<3):Ad c x≠[]/\0<=CF (Ad c x)/\CF (Ad c x)<=2/\0<=CH (Ad c x)/\CH (Ad c x)<=2:=by
 show Qs (u:=λx=>Ad c x≠[]/\0<=CF (Ad c x)/\CF (Ad c x)<=2/\0<=CH (Ad c x)/\CH (Ad c x)<=2) ?_ ?_ ?_ h;·show J j.d0 ?_;show⟨Dt _ _,by decide,by decide,by decide,by decide⟩
 ·show J j.d1 ?_;show⟨Dt _ _,by decide,by decide,by decide,by decide⟩
 ·show J j.d2 ?_;show⟨Dt _ _,by decide,by decide,by decide,by decide⟩
def OS(m:Iv D Q c d){x:Nat}(h:x<3):SM c 1 0 1 (Ik x):=by have k:∀p∈(Ik x).ps,p=(x,1):=λp j=>As.mp j;show⟨⟨DO.mpr ⟨λh=>(by cases h),G1⟩,λp j=>J (k p j) (by decide:(1:Int)≠0),λp j=>J (k p j) (N3 m h).1,by show(?_:(1:Int)+0<=1);decide,Ag _⟩,λp j=>J (k p j) h,BB _,BB _⟩
def Vt{a:Int}(j:0<=H)(k:H<=2):-(2*a.natAbs)<=a*H/\a*H<=2*a.natAbs:=by
 have h:(a*H).natAbs<=2*(a.natAbs:Int):=by rw[Int.natAbs_mul,Int.natCast_mul,Int.natAbs_of_nonneg j,Int.mul_comm];show Int.mul_le_mul_of_nonneg_right k (Co _)
 show⟨BE (Jq h) (Int.neg_le_of_neg_le (Int.natAbs_neg _▸Int.le_natAbs)),BE Int.le_natAbs h⟩
def Zm(x:Iv D Q c d):∀(j)(lo k),(∀p∈j,p.1<3)->lo-2*DX j<=(Bc c j lo k).1/\(Bc c j lo k).2<=k+2*DX j:=by intro j;induction j with|nil=>showλlo k _=>⟨Cy (Int.sub_zero lo),Cy (HP k).symm⟩|cons p j H=>intro lo k h;show HG (N3 x (h _ AR)) λb T l2 Y a=>?_;have u:=Vt (a:=p.2) T l2;have w:=Vt (a:=p.2) Y a;have m:=H (lo+min (p.2*CF (Ad c p.1)) (p.2*CH (Ad c p.1))) (k+max (p.2*CF (Ad c p.1)) (p.2*CH (Ad c p.1))) λp O=>h p (Ah _ O);show(?_:lo-2*(p.2.natAbs+DX j)<=_/\_<=k+2*(p.2.natAbs+DX j));show⟨BE (Aa (Int.le_min.mpr ⟨u.1,w.1⟩) (by simp+arith)) m.1,BE m.2 (Aa (Int.max_le.mpr ⟨u.2,w.2⟩) (by simp+arith))⟩
def SM.UW(m:Iv D Q c d)(h:SM c f C M a)(j:f<=100)(k:C<=500)(p:M<900):Gu c a:=by show⟨(h.FC.zz (BE j (Co _)) p).nv,?_⟩;have b:=Zm m _ a.c a.c h.k3;have n:=BE h.FC.nr j;show⟨BE (Aa n (Aa n (Aa h.lo (Aa k (by simp+arith))))) b.1,BE b.2 (Aa n (Aa n (Aa h.hi (Aa k (by simp+arith)))))⟩
def Kj(j:Iv D Q c d)(h:D0 k C t)(Y:0<=k):SM c (k+k) C 2 (B7 t)/\∀v:_,(B7 t).at v=worth t (v 0,v 1,v 2):=by show Kx h λu w x H O T=>?_;have m:=MJ (OQ O T) (OS j (x:=0) (by decide)) u w (by decide) (by decide);have s2:=MJ m (OS j (x:=1) (by decide)) x H (by decide) (by decide);show⟨s2.le (by simp+arith) (by simp+arith) (by decide),λv=>J ((Dy m.FC (OS j (by decide)).FC).2 v) (J ((Dy (Am.int _ (BB _):Am c 0 0 _) (OS j (by decide)).FC).2 v) (?_:0+t.2.2+_*(1*_+0+0)+_*(1*_+0+0)=_*_+_*_+_))⟩;rw[Int.one_mul,Int.one_mul,HP,HP,HP,HP];generalize _=p;generalize _=a;show by simp+arith 
def ia(m:Iv D Q c d)(h:Lh u j):SM c 2 2 2 (FW j):=by cases j with|num t=>show(Kj m h.2 (by decide)).1|F' t=>show⟨⟨G1,CP _,CP _,by show(?_:(0:Int)<=2);decide,De _⟩,CP _,by show(?_:-2<=Bu t);clear h;cases t<;>decide,by show(?_:Bu t<=2);clear h;cases t<;>decide⟩|b=>show⟨⟨DO.mpr ⟨λh=>(by cases h),G1⟩,λp k=>J (As.mp k) (by decide),λp k=>J (As.mp k) (N3 m (x:=2) (by decide)).1,by show(?_:(1:Int)+0<=2);decide,by show(?_:1<=2);decide⟩,λp k=>J (As.mp k) (by decide:2<3),by decide,by show(?_:(0:Int)<=2);decide⟩|nb=>show⟨⟨DO.mpr ⟨λh=>(by cases h),G1⟩,λp k=>J (As.mp k) (by decide),λp k=>J (As.mp k) (N3 m (x:=2) (by decide)).1,by show(?_:(1:Int)+0<=2);decide,by show(?_:1<=2);decide⟩,λp k=>J (As.mp k) (by decide:2<3),by decide,by decide⟩
def ic(AC:Iv D Q c d):∀(e:Zs),(∀E∈e,SM c 6 5 2 E.2/\Ep E.1)->e.length<=2->SM c 24 24 4 (Dx e (.int 0)):=by
 have step:∀(E:(Int×Int)×Val)(p)(f C)(M),SM c 6 5 2 E.2->Ep E.1->SM c f C M p->_->_->SM c (6+3*f) (6+3*C) _ _:=λE p f C M w x h3 H O=>by show CW x λY a b g=>?_;have j:=MJ (w:=-1) (m:=1) w (OQ (c:=c) (C:=1) Y a) (by decide) (by decide) (by decide) (by decide);show(MJ (w:=E.1.2-E.1.1+1) j h3 (Aa b (by simp+arith)) (Aa g (by simp+arith)) H O).le (BB _) (BB _) (Ag _)
 have k:SM c 0 0 0 _:=OQ (BB _) (BB _);intro e h T;cases e with|nil=>show k.le (by decide) (by decide) (by decide)|cons E e=>show AV (h E AR) λm u=>?_;have j:=step E _ _ _ _ m u k (BB _) (BB _);cases e with|nil=>show j.le (by decide) (by decide) (by decide)|cons A e=>cases e with|nil=>show AV (h A (Ah _ AR)) λb1 b2=>(step A _ _ _ _ b1 b2 j (by decide) (by decide)).le (by decide) (by decide) (by decide)|cons=>show absurd (PD (PD T)) (Nat.not_succ_le_zero _)
def j2(j:Iv D Q c d)(m:EK l):∀E∈CC l,SM c 6 5 2 E.2/\Ep E.1:=λE h=>by show AJ (Ar.mp h) λp k u=>?_;clear h;obtain rfl:=u;show AV (m.zs p k) λa b=>⟨(Kj j b (by decide)).1,a⟩
def Rz(j:EK l):(CC l).map (λE=>E.1)=l.DM/\l.some≠[]/\l.some.length<60:=by have k:=BX j.sl▸RW _ j.rn j.rb;show⟨by unfold CC;show J Bj (SU j.il.symm),λh=>by rw[h]at k;show absurd k.1 (by decide),cnt (HQ k.2 (by decide))⟩
def R0(k:Iv D Q c d)(j:EK l):G2 c (CC l) (CL l):=by show BG (Rz j) λT l2 Y=>?_;have m:=j2 k j;have p:=ic k _ m (Ol j);have O:=MJ (w:=1) (m:=1) p (OQ (C:=1) (i:=1) (by decide) (by decide)) (by decide) (by decide) (by decide) (by decide);show⟨λE h=>⟨(m E h).1.FC.le (by decide) (Ag _),(m E h).2⟩,⟨p.FC.le (by decide) (by decide),O.UW k (by decide) (by decide) (by decide)⟩,λo u=>?_,λh=>l2 (GQ.mp h),by unfold CL;rw[Al];show Y,by(show J T ?_;show Mine.AU j.sl ?_);unfold CL;rw[Al],Ai (Ol j) (by decide)⟩;show AJ (Ar.mp u) λx H a=>?_;clear u;obtain rfl:=a;have w:=ia k (j.sb x H);show⟨w.FC.le (by decide) (Ag _),w.UW k (by decide) (by decide) (by decide)⟩
def ju(p:Iv D Q c d)(k:EK l):Ir c (CC l) (CL l) 900 8:=by have m:=R0 p k;have j:=Ol k;show⟨by decide,by decide,λE h=>⟨(m.z E h).1.le (by decide) (by decide),CW (m.z E h).2 λu u a b=>L' (Aa a (by simp+arith)) (Aa b (by simp+arith))⟩,Ai (Nat.mul_le_mul_right 8 j) (by decide),by decide,Ai j (Ay _ _),m.p.1,m.h0,m.hl,λo h=>(m.w o h).1.le (by decide) (by decide)⟩
def Mb(j:Iv B0 Q0 c d):∀o∈CL l,Aj o=true->CA c d o:=λo w k=>by
 show AJ (Ar.mp w) λu H x=>?_;obtain rfl:=x;have p:∀m,TD B0 c (.bit 2 m):=λm=>⟨j.three,j.d2,λh=>h⟩
 cases u with|num t=>
  have:Aj (B7 t)=false:=by delta B7 Bl;unfold MB;split<;>rfl
  rw[show Aj (FW (.num t))=Aj (B7 t)from rfl,this]at k;show AX k|F' t=>trivial|b=>show(p _).Er|nb=>show(p _).Er
end
end
noncomputable def h3(v:Nat->Int):Int×Int×Int:=(v 0,v 1,v 2)
section
mutual
open A
variable{D:Nat->Prop}{Q:CV->Prop}{c k y g m:GS}{d e f:List Told}{v w:Nat->Int}{t:Int×Int×Int}{E i A n:Nat}{B a b x:Val}{u:List Val}{o:Zs}{H G C r:Int}{M z:Nat}{l:Ca}{s:Sg}
def fB(I:Iv B0 Q0 c d)(AC:Am c 100 2 a)(At:Am c 100 2 b)(h:CM c s a b B k){L:Prop}(N:∀e,Cons B0 Q0 c d k e (λY=>True)->CA k e B->(∀v,An k e v->(BF v B↔ON s (a.at v) (b.at v)=true))->L):L:=by
 show AV (Dy (w:=-1) AC At) λO i=>?_;have f:∀{B},RT c true _ B k->(∀e,Cons B0 Q0 c d k e (λY=>True)->CA k e B->(∀v,An k e v->(BF v B↔a.at v=b.at v))->L)->L:=λ{B}h m=>by show Qv I (λY h=>h) (λh=>h) (O.zz (by decide) (by decide)).nv O.nz h λe q T p=>m e q T.Er λv j=>(p v j).trans (?_:(Bl a b _).at v=0↔_);rw[i];(simp+arith;done)
 cases s with|le=>show AV (Dy O (Am.int (M:=0) 0 (BB _))) λl n=>Qv I (λY h=>h) (λh=>h) (l.zz (by decide) (by decide)).nv l.nz h λe q T p=>N e q T.Er λv j=>(p v j).trans (?_:(Bl _ _ 1).at v<=0↔decide _=_);(rewrite[n,i,decide_eq_true_iff];show J (show(Val.int 0).at v=0 from rfl) ?_);(simp+arith;done)|eq=>show f h λe q t p=>N e q t λv j=>(p v j).trans (by show(?_:_↔(_==b.at v)=_);rw[A5])|ne=>(have g:=h;clear h;show AJ g λu1 h o=>?_;(try clear g);obtain rfl:=o);show f h λe q t p=>N e q t.flip λv j=>(Na t j).trans ?_;rw[p v j];show(?_:_↔(!_)=_);rw[Jm,I9]
def bZ{h:Int×Int×Int}:∀(q:List ((Int×Int)×Int×Int×Int))(p:Int),(∀E∈q,(B7 E.2).at v=worth E.2 h)->(inside (q.map λE=>(E.1,B7 E.2)) v->E5 q h p=some (C5 v (q.map λE=>(E.1,B7 E.2)) p))/\(¬inside (q.map λE=>(E.1,B7 E.2)) v->E5 q h p=none):=by intro q;induction q with|nil=>intro p O;show⟨λO=>rfl,λh=>absurd (CP _) h⟩|cons O q c=>
  obtain⟨j,t⟩:=O;intro p T;have Y:(B7 t).at v=worth t h:=T (j,t) AR;have e:inside (((j,t)::q).map λE=>(E.1,B7 E.2)) v↔(j.1<=worth t h/\worth t h<=j.2)/\inside (q.map λE=>(E.1,B7 E.2)) v:=by show Mine.AU Y<|⟨λI=>⟨I (j,B7 t) AR,λE L=>I E (Ah _ L)⟩,λI E L=>by show mc L I.1 λL=>I.2 E L⟩
  have d:E5 ((j,t)::q) h p=if decide (j.1<=worth t h)&&decide (worth t h<=j.2)then E5 q h (p*(j.2-j.1+1)+worth t h-j.1)else none:=rfl;show AV (c (p*(j.2-j.1+1)+worth t h-j.1) λE L=>T E (Ah _ L)) λg i=>?_;(rewrite[e];show J d ?_;show J (by show(?_:C5 v _ ((B7 t).at v-j.1+(j.2-j.1+1)*p)=_);show J Y ?_;rewrite[Int.mul_comm];congr 1;show by simp+arith:C5 v (((j,t)::q).map λE=>(E.1,B7 E.2)) p=C5 v (q.map λE=>(E.1,B7 E.2)) (p*(j.2-j.1+1)+worth t h-j.1)) ?_);by_cases N:j.1<=worth t h/\worth t h<=j.2;·show J (BC N.1) (J (BC N.2) ⟨λI=>g I.2,λI=>i λq=>I ⟨N,q⟩⟩)
  ·have:(decide (j.1<=worth t h)&&decide (worth t h<=j.2))=false:=by cases f:decide (j.1<=worth t h)&&decide (worth t h<=j.2)with|false=>rfl|true=>(show AV ((Ct _ _).mp f) λa b=>?_);show absurd ⟨A9 a,A9 b⟩ N
   show J this ⟨λI=>absurd I.1 N,λO=>rfl⟩ 
def hZ(L:CA c d x)(T:TD B0 c (.bit 2 true))(N:An c d v)(I p:Bool):(∃A∈(if I then x else CS x)::if p then[.bit 2 true]else[],BF v A)↔(BF v x↔I=true)\/p=true/\v 2=1:=by
 rw[<-(by cases p with|false=>show⟨λ⟨A,j,_⟩=>(by cases j),λh=>AX h.1⟩|true=>show⟨λ⟨A,j,q⟩=>by rw[As.mp j]at q;show⟨rfl,q⟩,λh=>⟨_,AR,h.2⟩⟩:(∃A∈if p then[Val.bit 2 true]else[],BF v A)↔p=true/\v 2=1),<-(by cases I with|true=>show⟨λh=>⟨λO=>rfl,λO=>h⟩,λh=>h.mpr rfl⟩|false=>show(?_:BF v (CS x)↔_);rw[Na L N];show⟨λh=>⟨λq=>absurd q h,AX⟩,λh q=>by cases h.mp q⟩:BF v (if I then x else CS x)↔(BF v x↔I=true))];constructor;·rintro⟨A,j,q⟩;cases j with|head=>show .inl q|tail _ j=>show .inr ⟨A,j,q⟩
 ·rintro(q|⟨A,j,q⟩);·show⟨_,AR,q⟩
  ·show⟨A,Ah _ j,q⟩
def JF(I:Iv B0 Q0 c d){j:El}(h:Lh l.bits j):(l.bits=true->(BF v (FW j)↔Lf l (h3 v) j=true)/\Aj (FW j)=true)/\(l.bits=false->Aj (FW j)=false/\Lf l (h3 v) j=ON l.sign ((FW j).at v) (worth l.other (h3 v))):=by
 cases j with|num t=>
  show⟨λp=>(by replace h:=p▸h;cases h.1),λq=>⟨?_,?_⟩⟩;·show(?_:Aj (B7 t)=_);delta B7 Bl;unfold MB;split<;>rfl
  ·skip;show J ((Kj I h.2 (by decide)).2 v) ?_;rfl|F' t=>show⟨λq=>⟨FO,rfl⟩,λp=>by rw[p]at h;show AX h⟩|b=>show⟨λq=>⟨by show(?_:v 2=1↔(v 2==1)=_);rw[A5],rfl⟩,λp=>by rw[p]at h;show AX h⟩|nb=>show⟨λq=>⟨by show(?_:v 2=0↔(v 2==0)=_);rw[A5],rfl⟩,λp=>by rw[p]at h;show AX h⟩
def fF(I:Iv B0 Q0 c d)(AC:EK l)(FM:My l c Fk Ev m)(FS:PH l m Fk EQ Do)(Fa:PJ l Do EQ Ev At Db)(Sc:RS (RO l At) Db k){Ch:Prop}(Re:∀e,(Cons B0 Q0 c d k e λv=>F1 l (h3 v)=true)->Ch):Ch:=by
 have H:=R0 I AC;show BG (Rz AC) λTk l2 Tl=>?_;have Gc:∀w∈CL l,∃L∈l.some,w=FW L:=λw A=>by(show AJ (Ar.mp A) λL i B=>?_;obtain rfl:=B);show⟨L,i,rfl⟩
 have JP:l.bits=true->∀w∈CL l,Aj w=true:=λg w A=>by(show AJ (Gc w A) λL i B=>?_;obtain rfl:=B);show((JF (v:=λp=>0) I (AC.sb L i)).1 g).2
 have H1:=Kj I AC.ob (by decide);let C:(Nat->Int)->Prop:=λv=>l.top=true->inside (CC l) v;have TE:(∀f,Cons B0 Q0 c d m f C->Jz m f (CL l) Fk->(∀x∈Ev,CA m f x)->(∀v,An m f v->(l.top=false->((∀x∈Ev,BF v x)↔inside (CC l) v))/\(inside (CC l) v->Fk.at v=((CL l).getD (C5 v (CC l) 0).toNat (.int 0)).at v))->Ch)->Ch:=λo=>by cases N:l.top with|true=>show Vi I H (Mb I) (iT N FM).1 λf T V a=>o f ⟨T.inv,T.vs,T.tx,λv j p=>T.snd v j,λv j D=>T.ext v j (D N)⟩ V (λx O=>by replace O:=(iT N FM).2▸O;cases O) λv j=>⟨λh=>Ck (N.symm.trans h),λp=>a v j⟩|false=>show Vh I H (Mb I) (iF N FM) λf T V nT a=>o f ⟨T.inv,T.vs,T.tx,λv j h=>AX (N.symm.trans h),λv j D=>T.ext v j trivial⟩ V nT λv j=>⟨λp=>(a v j).1,(a v j).2⟩
 show TE λf u W Rs M=>?_;have IN:∀v,inside (CC l) v->∃L∈l.some,l.some.getD (C5 v (CC l) 0).toNat .b=L/\(CL l).getD (C5 v (CC l) 0).toNat (.int 0)=FW L:=λv Y=>by have R:=H.rg Y;have Ok:(CL l).length=l.some.length:=Al ..;rw[Ok]at R;have Go:(C5 v (CC l) 0).toNat<l.some.length:=Ie (Aa R.1 (by simp+arith)) (Aa R.2 (by simp+arith));show⟨_,getD_mem (a:=El.b) Go,rfl,J G0 ?_⟩;show J D7 ?_;show J (getD_at (a:=El.b) Go) rfl
 have s2:(∀n,Cons B0 Q0 m f Do n (λp=>True)->CA Do n EQ->(∀v,An Do n v->inside (CC l) v->(BF v EQ↔Lf l (h3 v) (l.some.getD (C5 v (CC l) 0).toNat .b)=true))->Ch)->Ch:=λo=>by cases g:l.bits with|true=>show AV (iT g FS) λX Z=>?_;clear FS;obtain rfl:=X;obtain rfl:=Z;show o f (Cons.rfl u.inv) (W.t (JP g)) λv j Y=>B3 (IN v Y) λL i Q F=>?_;have q:=(M v j).2 Y;rw[F]at q;show J Q ?_;rewrite[<-((JF (v:=v) I (AC.sb L i)).1 g).1];(rewrite[(I8 (W.t (JP g)) j).1];show J q ?_;rewrite[(I8 (Mb I _ (Ar.mpr ⟨L,i,rfl⟩) ((JF (v:=v) I (AC.sb L i)).1 g).2) (j.down u.vs u.tx)).1];rfl)|false=>(show fB u.inv (W.n ((λg w A=>by(show AJ (Gc w A) λL i B=>?_;obtain rfl:=B);show((JF (v:=λp=>0) I (AC.sb L i)).2 g).1:l.bits=false->∀w∈CL l,Aj w=false) g)).2 ((H1.1.FC.le (by decide) (Ag _)).Ku u.vs) (iF g FS) λn T t L=>?_);show o n T t λv j Y=>B3 (IN v Y) λNo i Q F=>?_;have q:=(M v (j.down T.vs T.tx)).2 Y;rw[F]at q;(rewrite[L v j];show J Q ?_;show J ((JF (v:=v) I (AC.sb No i)).2 g).2 ?_;show J q ?_;show J (H1.2 v) ?_);rfl
 show s2 λn s t2 s2=>?_;have Ps:Cons B0 Q0 c d Do n C:=u.trans s (λp p a p=>a) λp p a=>⟨a,λp p p=>trivial⟩;have s3:(∀r,Cons B0 Q0 Do n Db r (λp=>True)->CA Db r At->(∀v,An Db r v->(l.top=true->(BF v At↔BF v EQ))/\(l.top=false->(BF v At↔BF v EQ/\inside (CC l) v)))->Ch)->Ch:=λo=>by cases N:l.top with
  |true=>show AV (iT N Fa) λX Z=>?_;clear Fa;obtain rfl:=X;obtain rfl:=Z;show o n (Cons.rfl s.inv) t2 λv p=>⟨λp=>FO,λh=>Ck (N.symm.trans h)⟩
  |false=>(show Qt s.inv (l:=EQ::Ev) (λx O=>by
     show mc O ?_ λO=>?_;·show t2
     ·show(Rs x O).up s.vs s.tx) (J B9 (Ex (Ai (HN.DU (iF N FM) H.h0).2.2 (Ay _ _)))) (iF N Fa) λr T t p L=>?_);show o r T t λv j=>⟨λh=>AX (N.symm.trans h),λp=>(L v j).trans ?_⟩;rw[<-(M v ((j.down T.vs T.tx).down s.vs s.tx)).1 N];show⟨λh=>⟨h _ AR,λx O=>h x (Ah _ O)⟩,λh x O=>by show mc O h.1 λO=>h.2 x O⟩
 show s3 λr y t3 s3=>?_;have M2:Cons B0 Q0 c d Db r C:=Ps.trans y (λp p a p=>a) λp p a=>⟨a,λp p p=>trivial⟩;have NE:TD B0 Db (.bit 2 true):=⟨y.inv.three,y.inv.d2,λh=>h⟩
 (show Qu y.inv (l:=RO l At) (λx O=>by
   show mc O ?_ λO=>?_;·split;show t3;show t3.flip
   ·split at O;·show J (As.mp O) ?_;show NE.Er
    ·cases O) Sc λTW S=>?_);have P:∀v,(inside (CC l) v->E5 (l.DM.zip l.indexes) (h3 v) 0=some (C5 v (CC l) 0))/\(¬inside (CC l) v->E5 (l.DM.zip l.indexes) (h3 v) 0=none):=λv=>by show bZ (l.DM.zip l.indexes) 0 λE Op=>(Kj I (AC.zs E Op).2 (by decide)).2 v
 have K:∀v,An Db r v->C v->((∃x∈((if l.want then At else CS At)::if l.C' then[.bit 2 true]else[]:List Val),BF v x)↔F1 l (h3 v)=true):=λv j D=>by
  rw[hZ t3 NE j];unfold F1;have On:=j.down y.vs y.tx;have Fs:(l.C'&&(h3 v).2.2==1)=true↔l.C'=true/\v 2=1:=by rw[Ct,A5];show FO
  by_cases Y:inside (CC l) v;·show J ((P v).1 Y) ?_;rw[H3,Fs,A5];rw[(by rw[<-s2 v On Y];cases N:l.top with|true=>show(s3 v j).1 N|false=>rw[(s3 v j).2 N];show⟨λh=>h.1,λh=>⟨h,Y⟩⟩:BF v At↔Lf l (h3 v) (l.some.getD (C5 v (CC l) 0).toNat .b)=true)];show or_congr Fh.symm FO
  ·show J ((P v).2 Y) ?_;have N:l.top=false:=by cases N:l.top with|false=>rfl|true=>show absurd (D N) Y
   show(?_:_↔(!l.top&&(!l.want||l.C'&&(h3 v).2.2==1))=true);show J N (?_:_↔(!l.want||l.C'&&(h3 v).2.2==1)=true);rw[H3,Fs];show or_congr ?_ FO;have L:¬BF v At:=λh=>Y ((s3 v j).2 N|>.mp h).2;cases l.want with|true=>show⟨λh=>absurd (h.mpr rfl) L,λh=>AX h⟩|false=>show⟨λp=>rfl,λp=>⟨λh=>absurd h L,λh=>AX h⟩⟩
 show Re TW (M2.trans S (λv j a b=>(K v (j.down S.vs S.tx) a).mp b) λv j G=>⟨λN=>?_,λz L Ix=>?_⟩);·show HM λY=>?_;unfold F1 at G;rw[(P v).2 Y,N]at G;show AX G
 ·skip;show(K z Ix (M2.snd z Ix)).mpr (by show J (by have:=I.three;show(?_:(z 0,z 1,z 2)=(v 0,v 1,v 2));(show J (L 0 (AZ (Ay _ _) this)) ?_;show J (L 1 (AZ (A1 _) this)) ?_;show J (L 2 this) ?_;rfl):h3 z=h3 v) ?_;show G)
end
end
section
mutual
open A
variable{c a g L X:GS}{d b:List Told}{v:Nat->Int}{l:Ca}{n k:Nat}{o:A'}
def jN(h:TD D c t):Cm c t.ps:=by cases t with|int=>cases h|sum=>cases h|bool=>showλi h=>by cases h|bit x s=>have f:Ad c x≠[]:=J h.2.1 (Dt _ _);cases s with|true=>showλp e=>J (As.mp e) ⟨f,C4 (a:=1) (by decide),C4 (a:=1) (by decide)⟩|false=>showλp e=>J (As.mp e) ⟨f,C4 (a:=-1) (by decide),C4 (a:=-1) (by decide)⟩ 
def gq(I:Iv B0 Q0 (cr g) d)(i:EK l):Mz g l 900 8:=by
 have m:=R0 I i;have B:∀w∈CL l,∃e∈_,w=FW e:=λw f=>by(show AJ (Ar.mp f) λe p q=>?_;clear f;obtain rfl:=q);show⟨e,p,rfl⟩
 show⟨i,(ju I i).core rfl,by decide,by decide,λs w f=>?_,((Kj I i.ob (by decide)).1.FC.le (by decide) (by decide)).core rfl,λu k Q t T A D=>?_,λs v b Y h=>?_⟩;·show AJ (B w f) λe p q=>?_;clear f;obtain rfl:=q;show((JF (v:=λj=>0) I (i.sb e p)).1 s).2
 ·show Vk I m.rows.1 A λC M y N=>?_;have E:=(Kf (by decide) λz H=>(m.z z H).1).2;(show Qt M.inv (λx G=>(y x G).Er) (by(show J (A.facts (O:=0)).2.2.2.2 ?_;show J E ?_);have:=m.zl;show lf this (lf this (by simp+arith))) D λc a b1 b2 O=>?_);show jN (b2 y)
 ·have r:∀w∈_,_=_:=λw f=>by(show AJ (B w f) λe p q=>?_;clear f;obtain rfl:=q);show((JF (v:=λj=>0) I (i.sb e p)).2 s).1
  cases u:l.top with|true=>rw[u]at h;show Vi I m (Mb I) h.1 λC j o j=>⟨(o.n r).1,(o.n r).2.le (by decide) (by decide)⟩|false=>rw[u]at h;show Vh I m (Mb I) h λC j o j j=>⟨(o.n r).1,(o.n r).2.le (by decide) (by decide)⟩
def gO(h:g.part=none)(e:6<=k):(U g).set k o=U {g with other:=λi=>if i=k then some o else g.other i}:=Ij ((N8 (En (g:={g with other:=λi=>if i=k then some o else g.other i}) h e)).trans (AG rfl)) (λi f=>MD (AF f).symm) (.inr rfl)
def An.core(j:L.vars=g.vars)(h:An g d v):An L d v:=⟨h.BD,λx e=>by
 have:Ad L x=Ad g x:=by unfold Ad;(show J j ?_;rfl)
 show J this ?_;show h.FV x (Mine.AU j e)⟩
noncomputable def base:List (Str×BR):=[(Str.ofString "x",[(0,2)]),(Str.ofString "y",[(0,1)]),(Str.ofString "b",[(0,1)])]
def S2(j:c.vars=base):Ad c 0=[(0,2)]/\Ad c 1=Bf/\Ad c 2=Bf:=by unfold Ad;show J j ⟨rfl,rfl,rfl⟩ 
def Y5(r:c.vars=base)(t:c.BD=[])(h3:c.made=[]):Iv B0 Q0 c []:=by
 show BG (S2 r) λi j m=>?_;have e:c.vars.length=3:=J r rfl;show⟨t,λx s=>?_,CP _,λz w f K v q=>q.b0 z (AZ w (AY e)),λk z f h=>?_,AY e.symm,i,j,m,λf f h=>h⟩
 ·rw[e]at s;show Qs (u:=λx=>GH 1000 (Ad c x)/\(Ad c x).length<1000) ?_ ?_ ?_ s;·show J i ?_;show⟨⟨Dt _ _,λp u=>J (As.mp u) ⟨by decide,by decide,by decide,by decide,by decide⟩⟩,by show(?_:1<_);decide⟩
  ·show J j ?_;show⟨MV,by show(?_:1<_);decide⟩
  ·show J m ?_;show⟨MV,by show(?_:1<_);decide⟩
 ·rw[h3]at h;show AS h
def Y6(e:c.vars=base)(h:0<=v 0/\v 0<=2/\0<=v 1/\v 1<=1/\0<=v 2/\v 2<=1):An c [] v:=by
 show BG (S2 e) λi j m=>⟨CP _,λx f=>?_⟩;rw[(J e rfl:c.vars.length=3)]at f;show Qs (u:=λx=>E8 (v x) (Ad c x)) ?_ ?_ ?_ f;·show J i ?_;show⟨_,AR,h.1,h.2.1⟩
 ·show J j ?_;show⟨_,AR,h.2.2.1,h.2.2.2.1⟩
 ·show J m ?_;show⟨_,AR,h.2.2.2.2.1,h.2.2.2.2.2⟩
end
end
mutual
open A
noncomputable def gE:GS:=⟨[],[],[],none,λa=>none,6⟩
def gB:GS:=⟨base,[],[],none,λa=>none,6⟩
end
section
mutual
open A
variable{n k:Nat}{g G:GS}{f:St}{P:Pg}{e:Env}{o:A'}{b:List Int}
def bl{j:Nat}(h:AD P a e f=some (.lst u,f)):AD P (.slice a (.int j)) e f=some (.lst (u.take j),f):=b1 h (b1 ?r (b1 ?r (m1 (Ww u j) ?r)))
def fp(I:A'):∃X,AD (AN T3 (n+5)) (.new 2) e ((⟨λa=>none,0⟩:St).new I)=some (.ref 1,X)/\X=U (gE.A4 I):=by show⟨_,by rfl,(?_:(⟨_,6⟩)=_)⟩;show AE (St.mk · 6) (N4 rfl rfl rfl rfl rfl rfl λn=>rfl)
def aV(p:List _):∃b,Cells b/\AD (AN T3 (n+5)) (.bin .add (.comp (.bin .mod (.bi .abs [.var 78]) (.int 1000003)) [.mk (.nm 78) (.val (.slice (.var 39) (.int 50))) []] [78,115]) (.bin .mul (.lst [.int 0]) (.bi .int [.cmp .eq (.var 39) (.lst [])]))) (upd (λj=>none) 39 (.lst (p.map V.int))) f=some (.lst (b.map V.int),f):=by let q:=upd (λj=>none) 39 (.lst (p.map V.int));have i:(p.take 50).length<=50:=J List.length_take (Nat.min_le_left _ _);have l:AD (AN T3 (n+5)) (.comp (.bin .mod (.bi .abs [.var 78]) (.int 1000003)) [.mk (.nm 78) (.val (.slice (.var 39) (.int 50))) []] [78,115]) q f=_:=Gb (EC (bl rfl) (Mine.AU List.map_take rfl)) (λa j=>⟨_,by rfl,BA (Bk rfl (Sw a)) ?r ((λa=>by show Mine.AU (O7 a (show _ by decide)) ?_;rfl:∀a:_,Cc f _ _ _=some (.int (a%1000003))) _)⟩) (Ai i (by decide));cases p with|nil=>show⟨[0],⟨Dt _ _,λc d=>by show J (As.mp d) ?_;decide,by decide⟩,?_⟩;show rfl|cons a r=>
  show⟨((a::r).take 50).map λa=>a.natAbs%1000003,⟨λh=>(by cases h),λc d=>?_,by rw[Al];show Ai i (Ay _ _)⟩,?_⟩;·show AJ (Ar.mp d) λs j m=>?_;clear d;obtain rfl:=m;show⟨Int.emod_nonneg _ (by decide),Int.emod_lt_of_pos _ (by decide)⟩
  ·show J Bj (BA (A:=.lst []) l rfl ((add_l ?_).trans (by rw[Bv];rfl)));rw[Al];show Ai (show _ by show i) (by decide)
def en(p:List _):∃b,Cells b/\∀r,Ao (AN T3 (n+9)) (Fm.body.drop 2) (upd (upd (upd (upd (upd (upd (λc=>none) 39 (.lst (p.map V.int))) 18 (.ref 0)) 29 (.ref 1)) 22 (.int (0:Nat))) 23 (.int (1:Nat))) 30 (.int (2:Nat))) (U (gB.A4 (JX b 0 0)))=some r->Ao (AN T3 (n+9)) Fm.body (upd (λc=>none) 39 (.lst (p.map V.int))) ⟨λc=>none,0⟩=some r:=by show AJ (aV (n:=n+4) (f:=⟨λc=>none,0⟩) p) λb q l=>⟨b,q,λr x=>?_⟩;let h:=upd (λc=>none) 39 (.lst (p.map V.int));have m:Hh _ [.str "cells",_,.str "spot",.int 0] h _=_:=HD ?r ?r l rfl;show AJ (fp (n:=n+4) (e:=h) (JX b 0 0)) λX i t=>?_;rw[t]at i;let j:=upd (upd h 18 (.ref 0)) 29 (.ref 1);let y:=gE.A4 (JX b 0 0);have w:∀{g:GS}{s}{d:BR}{a:ME},(∀f,AD (AN T3 (n+9)) a j f=some (C0 d,f))->_->AD _ (.Af (.attr (.var 29) 7) 0 [.str (Str.ofString s),a]) j (U g)=_:=λu v=>B5 rfl ?r ?r (AL ?r (AL (u _) ?r)) (TN v);show AI (Az (CI (AL (Le m) (AL i ?r))) ?r) (AI (Az (CI (AL (w (d:=[(0,2)]) λc=>by rfl (by show(?_:0<_);decide)) (AL (w (d:=[(0,1)]) λc=>by rfl (by show(?_:1<_);decide)) (AL (w (d:=[(0,1)]) λc=>by rfl (by show(?_:2<_);decide)) ?r)))) ?r) x)
end
end
mutual
open A
structure GN(X:GS)(us:List (Nat×Ca)):Prop where
 pn:X.part=none
 n9:9<=X.next
 lst:X.other 8=some (.list (us.map λp=>V.ref p.1))
 use:∀p∈us,6<=p.1/\p.1<X.next/\X.other p.1=some (EY p.2)/\EK p.2
 ul:us.length<=2
def JQ(p:List Int):Env:=upd (upd (upd (upd (upd (upd (λa=>none) 39 (.lst (p.map V.int))) 18 (.ref 0)) 29 (.ref 1)) 22 (.int (0:Nat))) 23 (.int (1:Nat))) 30 (.int (2:Nat))
end
section
mutual
open A
variable{n k:Nat}{g G X:GS}{f:St}{P:Pg}{e:Env}{o:A'}{a:List Int}{l:List (Nat×Ca)}
def IU(i:X.part=none)(d:6<=k)(h:X.other k=some o):(U X).objs k=some o:=(IW d λj b c=>by rw[i]at c;show AS c).trans h
def GN.draw(h:GN X l)(o:A'):GN (X.A4 o) l:=⟨h.pn,h.n9,h.lst,λp j=>by show CW (h.use p j) λi b c d=>⟨i,b,show(if _ then _ else _)=_ by show J (AF (Dd (AZ (Ay _ _) i))) ?_;show c,d⟩,h.ul⟩
def eo(p:List Int)(T:So 51 o):∃X l H,GN X l/\X.vars=base/\X.BD=[]/\X.made=[]/\0<=H/\H<=1/\∀r,Ao (AN T3 (n+9)) (Fm.body.drop 5) (upd (upd (JQ p) 40 (.ref 8)) 41 (.int H)) (U X)=some r->Ao (AN T3 (n+9)) (Fm.body.drop 2) (JQ p) (U (gB.A4 o))=some r:=by
 let s:GS:=gB.A4 o;show TS (n:=n+6) (g:=s) rfl (En rfl (by show(?_:6<=6);decide)) ?r T λu y R A t1 N=>?_;let v:GS:=((s.Bh .BJ 6 R).lay 7 (EY u)).A4 y;let b:GS:=v.lay 8 (.list [.ref 7]);let m:Env:=upd (JQ p) 40 (.ref 8);have s2:A8 (AN T3 (n+9)) (Fm.body.getD 2 .fail) (JQ p) (U s)=some (.next,m,U b):=by show Mine.AU (F3 (g:=v) (En rfl (by show(?_:6<=8);decide))) ?_;show Az (bk (AL (BI (AL ?r ?r) N) ?r)) ?r
 have d:GN b [(7,u)]:=⟨rfl,by show(?_:9<=9);decide,by rfl,HS.mpr ⟨by show(?_:6<=7);decide,by show(?_:7<9);decide,by rfl,A⟩,by show(?_:1<=2);decide⟩;have j:AD (AN T3 (n+9)) (.cmp .eq (.bi .len [.idx (.idx (.var 40) (.int 0)) (.str "ranges")]) (.int 1)) m (U b)=some (.bool ((u.DM.length:Int)==1),U b):=Aq (Bk (AL (BM (BM (AH ?r) ?r (Lr (x:=0) (IU rfl (by decide) d.lst) ?r)) ?r (KR (IU (k:=7) rfl (by decide) (d.use _ AR).2.2.1) ?r)) ?r) (by show(?_:some (V.int (u.DM.map Aw).length,_)=_);rw[Al])) ?r ?r;have x:∀(X:GS)(l:List (Nat×Ca))(t:A'),GN X l->X.vars=base->X.BD=[]->X.made=[]->X.other 0=some t->So 1 t->A8 (AN T3 (n+9)) (Fm.body.getD 3 .fail) m (U b)=some (.next,m,U X)->∃X l H,GN X l/\X.vars=base/\X.BD=[]/\X.made=[]/\0<=H/\H<=1/\∀r,Ao (AN T3 (n+9)) (Fm.body.drop 5) (upd (upd (JQ p) 40 (.ref 8)) 41 (.int H)) (U X)=some r->Ao (AN T3 (n+9)) (Fm.body.drop 2) (JQ p) (U (gB.A4 o))=some r:=λX l t L C D E a h O=>J5 (n:=n+8) (a:=2) (g:=X) (q:=0) L.pn a h (by decide) λH o2 I M g Q=>⟨X.A4 o2,l,H,L.draw _,C,D,E,I,Mo M,λr e=>AI s2 (AI O (AI (Az (BI (AL ?r ?r) Q) ?r) e))⟩;cases h:(u.DM.length:Int)==1 with|false=>rw[h]at j;show x b _ y d rfl rfl rfl ?r (t1.le (by decide)) (Bq j ?r ?r)|true=>
  rw[h]at j;show TS (n:=n+6) (g:=b) (q:=1) rfl (En rfl (by show(?_:6<=9);decide)) ?r t1 λu2 z B f t3 q=>?_;let c:GS:=((b.Bh .BJ 9 B).lay 10 (EY u2)).A4 z;have q:Ae T3 (n+9) 104 [.ref 0] (U b)=some (.ref 10,U c):=q;let w:GS:={c with other:=λi=>if i=8 then some (.list [.ref 7,.ref 10])else c.other i};have Y:E3 (U c) (.ref 8) .append [.ref 10]=some (.none,U w):=by(show J (LN (IU rfl (by decide) ?r) (by show(?_:1<lim);decide)) ?_;show J (gO (g:=c) rfl (by decide)) ?_);rfl
  show x w [(7,u),(10,u2)] z ⟨rfl,by show(?_:9<=11);decide,by rfl,Bo.mpr ⟨⟨by show(?_:6<=7);decide,by show(?_:7<11);decide,by rfl,A⟩,HS.mpr ⟨by show(?_:6<=10);decide,by show(?_:10<11);decide,by rfl,f⟩⟩,by show(?_:2<=2);decide⟩ rfl rfl rfl ?r t3 (BS j ?r (AI (D3 (G' (AH ?r) (JT (IU (X:=b) rfl (by decide) d.lst)).1 (AL (BI (AL ?r ?r) q) ?r) Y)) ?r))
end
end
noncomputable def K3(h:Int×Int×Int):List (Nat×Int):=[(0,h.1),(1,h.2.1),(2,h.2.2)]
section
mutual
open A
variable{n k O:Nat}{g G X:GS}{f:St}{P:Pg}{e:Env}{o:A'}{a:List Int}{l:List (Nat×Ca)}{d:List Told}
def g0(o):∀(j:List (_×Ca))(X:GS)(d)(e),X.part=none->X.other 8=some (.list o)->(∀p∈j,6<=p.1/\p.1<X.next/\X.other p.1=some (EY p.2)/\EK p.2)->Wk (O+170*j.length) X->Iv B0 Q0 (cr X) d->(∀i,i∈[22,23,29,30]->e i=if i=22 then some (.int (0:Nat))else if i=23 then some (.int (1:Nat))else if i=29 then some (.ref 1)else some (.int (2:Nat)))->∀{y:Prop},(∀B r FM,Cw (λx e f=>(BP (.nm 28) x e).bind λe=>Ao (AN T3 (n+9)) (ES Fm 5) e f) (some (8,.list o)) (j.map λp=>V.ref p.1) e (U X)=some (.next,B,U r)->r.other=X.other->r.part=none->X.next<=r.next->Wk O r->Cons B0 Q0 (cr X) d (cr r) FM (λv=>∀p∈j,F1 p.2 (h3 v)=true)->(∀i,i≠28->B i=e i)->y)->y:=by intro j;induction j with|nil=>intro X d e H E c w I c y;intro L;have k:=Cons.rfl I;show L e X d rfl rfl H (Ag _) w ⟨I,k.vs,k.tx,λc c c h=>(by cases h),λv AC c=>⟨v,λc c=>rfl,AC⟩⟩ λc c=>rfl|cons p j g=>
  intro X d e H E Q w I u y;intro L;show CW (Q p AR) λF K P C=>?_;have N:(CL p.2).length<60:=by unfold CL;rw[Al];show(Rz C).2.2
  show aA (n:=n) (O:=O+170*j.length) (w.le (J B9 (lf N (lf N (by simp+arith))))) H F K P (gq I C) λl v Ix Go JP H1 M2 IN W Do M EQ Ev A a u1 Fs Y=>fF I C Do M EQ Ev λFS T=>?_;(show g l FS (upd e 28 (.ref p.1)) a (J A E) (λq m=>by show CW (Q q (Ah _ m)) λb1 b2 R S=>⟨b1,AZ b2 Y,J A R,S⟩) Fs T.inv (λi s=>(AF (by intro t;rw[t]at s;revert s;decide)).trans (u i s)) λB G Fa Z o2 Db Ch Gc At M=>?_);show L B G Fa (b1 (b1 (a:=upd e 28 _) ?r (AI (D3 (BI (D:=RN _) (AL (AH (u 29 (by decide))) (AL rfl (AL (AH (u 22 (by decide))) (AL (AH (u 23 (by decide))) (AL (AH (u 30 (by decide))) ?r))))) W)) ?r)) ?_) (o2.trans A) Db (AQ Y Ch) Gc (T.trans At (λv c z b q m=>?_) λv c z=>⟨z p AR,λFk t c q m=>?_⟩) λi s=>(M i s).trans (AF s);·dsimp only;show J (AG (IU a (show 6<=8 by decide) (J A E))) Z
  ·show mc m z λm=>b q m
  ·have D:=I.three;have:h3 Fk=h3 v:=by show(?_:(_,_,_)=_);show J (t 0 (AZ (Ay _ _) D)) (J (t 1 (AZ (A1 _) D)) (J (t 2 D) rfl))
   show J this (z q (Ah _ m))
def GH.le(h:GH A H)(i:A<=D):GH D H:=⟨h.1,λp r=>HG (h.2 p r) λj b c m q=>⟨j,b,c,Aa m (Aa i (by simp+arith)),BE q i⟩⟩
def Yp(c:X.part=none)(j:6<=k)(I:Iv B0 Q0 (cr X) d)(h:X.vars.length<1000000)(i:X.BD.length<1000000):Im X d k:=⟨c,En c j,I.Ig,I.tok,λx b=>(I.FU x b).1.le (by decide),λx b=>Br (I.FU x b).2 (by decide),h,by
  have:X.BD.length=d.length:=by(show J I.Ig ?_;rewrite[Al];rfl)
  show Ai (AY this.symm) i⟩
def eX(L)(I:Iv B0 Q0 (cr X) d):GK X d (K3 L) (K3 L):=by
 have c:∀x∈keys (K3 L),x<3:=λx b=>by
  rcases BU.mp b with rfl|b;·show(?_:0<3);decide
  ·rcases BU.mp b with rfl|b;·show(?_:1<3);decide
   ·show J (As.mp b) ?_;show(?_:2<3);decide
 show⟨by show(?_:[0,1,2].Nodup);decide,λx b=>AZ (c x b) I.three,λx b=>⟨b,rfl⟩,λv h x b=>(h.k x b).symm⟩
def eW(L:Int×Int×Int)(I:Iv B0 Q0 (cr X) d):∀K,GK X d (K3 L) K->(∀t∈d,quiet K t)->(∀x,x<X.vars.length->CF (Ad X x)=CH (Ad X x)->x∈keys K)->(∃v,I4 X d (K3 L) v)->∀x,x<X.vars.length->x∈keys K:=λK G c i h x j=>h.elim λv b=>I.done x j (λh=>h) K v ⟨λy m=>(G.ex y (Ju.mpr m:y∈List.range 3)).1,An.core (g:=X) (L:=cr X) rfl b.s,G.ag v b,c,i⟩
def eY(m:c.vars=base)(k:Cons B0 Q0 (cr c) [] (cr X) d λv=>∀p∈l,F1 p.2 (h3 v)=true)(r:0<=L.1/\L.1<=2/\0<=L.2.1/\L.2.1<=1/\0<=L.2.2/\L.2.2<=1):(∃v,I4 X d (K3 L) v)↔(l.all λp=>F1 p.2 L)=true:=by
 rw[DD];constructor;·rintro⟨v,q⟩p s;show Mine.AU ((λv h=>by show(?_:(_,_,_)=L);show J (h 0 AR) (J (h 1 (Ah _ AR)) (J (h 2 (Ah _ (Ah _ AR))) ?_));rfl:∀v:_,(∀x∈_,v x=Ak _ x)->h3 v=L) v q.k) ?_;show k.snd v (An.core (g:=X) rfl q.s) p s
 ·intro h;let u:=λx=>if x=0 then L.1 else if x=1 then L.2.1 else L.2.2;show AJ (k.ext u (Y6 m r) h) λv i t=>?_;have j:(cr c).vars.length=3:=J m rfl;show⟨v,An.core (g:=cr X) rfl t,λx b=>?_⟩;rcases BU.mp b with rfl|b;·show J (i 0 (AZ (Ay _ _) (AY j.symm))) ?_;rfl
  ·rcases BU.mp b with rfl|b;·show J (i 1 (AZ (A1 _) (AY j.symm))) ?_;rfl
   ·show J (As.mp b) (J (i 2 (AY j.symm)) rfl)
end
end
mutual
open A
noncomputable def QS(H:Int):List (Int×Int×Int):=[(0,0,H),(0,1,H),(1,0,H),(1,1,H),(2,0,H),(2,1,H)]
def Nn(h:Int×Int×Int):Prop:=0<=h.1/\h.1<=2/\0<=h.2.1/\h.2.1<=1/\0<=h.2.2/\h.2.2<=1
structure O5(ρ:Env):Prop where
 U3:ρ 22=some (.int (0:Nat))
 U4:ρ 23=some (.int (1:Nat))
 Hj:ρ 29=some (.ref 1)
 U5:ρ 30=some (.int (2:Nat))
 U6:ρ 40=some (.ref 8)
end
section
mutual
open A
variable{n k O:Nat}{g G X c C:GS}{f:St}{P:Pg}{e:Env}{o:A'}{i:List Int}{l:List (Nat×Ca)}{d:List Told}
def gZ(B:Ee)(n w)(D)(f:St):(AN B n).call w D f=Ae B n w D f:=rfl
def dy(M:GN X l)(I:Iv B0 Q0 (cr X) d)(Ch:X.vars.length<1000000)(l2:X.BD.length<1000000)(AC:c.vars=base)(k:Cons B0 Q0 (cr c) [] (cr X) d λv=>∀p∈l,F1 p.2 (h3 v)=true)(L:Nn h)(T:O5 e){D:Prop}(At:∀r b,((BP (.nm 24) (t3 h) e).bind λe=>Ao (AN T3 (n+9)) (ES Fm 6) e (U X))=some (.next,upd (upd e 24 (t3 h)) 67 (.bool b),U r)->GN r l->cr r=cr X->r.vars=X.vars->r.BD=X.BD->D):D:=by
 let f:=upd e 24 (t3 h);have Y:∀m,(U (X.at m)).objs 8=some _:=λm=>by show IU M.pn (by decide) M.lst
 (show UK (P:=AN T3 (n+9)) (b:=.var 28) (c:=.not (.call 106 [.var 28,.var 24])) (p:=.nm 28) (r:=[28,115]) (F2 (AH (show f 40=_ from T.U6)) (Y _)) (λp B=>⟨_,by rfl,λw u=>by show CW (M.use p B) λx t y z=>AJ (Z3 (n:=n+7) (f:=U (X.at w)) (h:=h) z (by show IU M.pn x y) (show _ by show AZ t u)) λq a g=>⟨q,_,a,Gf (BI rfl g) ?r,by rfl,rfl⟩⟩) (Ai M.ul (by decide)) Y λq a i=>?_);have s:=M.n9;have H:=Aq (b:=.lst []) i ?r NW;rw[QG]at H;let A:=l.all λp=>F1 p.2 h;let j:=upd f 67 (.bool A);show Zw (n:=n+6) (ep:=0) (Yp M.pn (AQ (AQ (Ay _ _) s) a) I Ch l2) (eX h I) (Cq q) (lf s (lf a (by simp+arith))) (eW h I) λb E Q w o u F=>?_;have O:Hh (AN T3 (n+9)) [.var 22,.idx (.var 24) (.int 0),.var 23,.idx (.var 24) (.int 1),.var 30,.idx (.var 24) (.int 2)] j (U (X.at q))=_:=HD (AH T.U3) ?r rfl (HD (AH T.U4) ?r rfl (HD (AH T.U5) ?r rfl ?r));have G:AD (AN T3 (n+9)) (.FA [.var 22,.idx (.var 24) (.int 0),.var 23,.idx (.var 24) (.int 1),.var 30,.idx (.var 24) (.int 2)]) j (U (X.at q))=some (.ref q,U (X.kd q (K3 h) 0 (q+1))):=by show Mine.AU (F3 (g:=X.at q) (En M.pn (AQ (AQ (Ay _ _) s) a))) ?_;show Le O
 have C:AD (AN T3 (n+9)) (.call 112 [.attr (.var 29) 7,.FA [.var 22,.idx (.var 24) (.int 0),.var 23,.idx (.var 24) (.int 1),.var 30,.idx (.var 24) (.int 2)]]) j (U (X.at q))=some (.bool b,U (X.kd q E Q w)):=by have K:C1 (AN T3 (n+9)) [.attr (.var 29) 7,.FA [.var 22,.idx (.var 24) (.int 0),.var 23,.idx (.var 24) (.int 1),.var 30,.idx (.var 24) (.int 2)]] j (U (X.at q))=some ([.ref 2,.ref q],U (X.kd q (K3 h) 0 (q+1))):=AL (IG (AH (show j 29=_ from T.Hj)) ?r ?r) (AL G rfl);show BI K ((gZ T3 _ _ _ _).trans o)
 have N:AD _ (.cmp .ne _ (.var 67)) j _=_:=Aq C rfl rfl;rw[(by rw[Fh,F];show eY AC k L:b=A),EN]at N;show At (X.kd q E Q w) A (b1 ?r (AI (Az H ?r) (AI (Bq N ?r ?r) ?r))) ⟨M.pn,AQ s (AQ a (AQ (A1 _) u)),show(if _ then _ else _)=_ by show J (AF (by show Av (AZ s a))) ?_;show M.lst,λp B=>?_,M.ul⟩ rfl rfl rfl;show CW (M.use p B) λx t y z=>⟨x,by show AZ t (AQ a (AQ (A1 _) u)),show(if _ then _ else _)=_ by show J (AF (by show Av (AZ t a))) ?_;show y,z⟩
def dx(M:c.vars=base):∀(j:List _)(X:GS)(e),(∀h∈j,Nn h)->GN X l->Iv B0 Q0 (cr X) d->X.vars.length<1000000->X.BD.length<1000000->Cons B0 Q0 (cr c) [] (cr X) d (λv=>∀p∈l,F1 p.2 (h3 v)=true)->O5 e->∀{m:Prop},(∀s q,Cw (λx e f=>(BP (.nm 24) x e).bind λe=>Ao (AN T3 (n+9)) (ES Fm 6) e f) none (j.map t3) e (U X)=some (.next,s,U q)->m)->m:=by intro j;induction j with|nil=>intro X e a a a a a a a;showλr=>r e X rfl|cons h j z=>intro X e u L I w l2 k E m;intro r;show dy (n:=n) L I w l2 M k (u h AR) E λB b D A t Q t1=>z B (upd (upd e 24 (t3 h)) 67 (.bool b)) (λy N=>u y (Ah _ N)) A (J t I) (J Q w) (J t1 l2) (J t k) ⟨E.U3,E.U4,E.Hj,E.U5,E.U6⟩ λs q H=>r s q (Ko D H)
def d3(b:e 41=some (.int H)):AD P (.comp (.tup [.var 75,.var 76,.var 41]) [.mk (.nm 75) (.DL (.int 3)) [],.mk (.nm 76) (.DL (.int 2)) []] [75,76,115]) e f=some (.lst ((QS H).map t3),f):=by have m:∀(e),C2 P (.DL (.int 3)) e f=some (([0,1,2]:List Nat).map λ(x:Nat)=>V.int x,none,f):=λe=>rfl;have h:∀(e),C2 P (.DL (.int 2)) e f=some (([0,1]:List Nat).map λ(x:Nat)=>V.int x,none,f):=λe=>rfl;have a:FY P (λe f=>AD P (.tup [.var 75,.var 76,.var 41]) e f) [.mk (.nm 75) (.DL (.int 3)) [],.mk (.nm 76) (.DL (.int 2)) []] _ e f=_:=b1 (m e) (NI trivial λq p=>b1 ?r (b1 (a:=(true,f)) ?r (b1 (h _) (NI trivial λj p=>b1 (a:=upd (upd _ 75 _) 76 _) ?r (b1 (a:=(true,f)) ?r (m1 (CI (AL rfl (AL rfl (AL (AH (v:=.int H) b) ?r)))) ?r))))));show b1 a rfl
def KP{a b H:Int}(h:0<=a/\a<=2)(j:0<=b/\b<=1)(m:0<=H/\H<=1):Nn (a,b,H):=⟨h.1,h.2,j.1,j.2,m.1,m.2⟩
def dz(a:0<=H/\H<=1):∀h∈QS H,Nn h:=Bo.mpr ⟨KP (by decide) (by decide) a,Bo.mpr ⟨KP (by decide) (by decide) a,Bo.mpr ⟨KP (by decide) (by decide) a,Bo.mpr ⟨KP (by decide) (by decide) a,Bo.mpr ⟨KP (by decide) (by decide) a,Bo.mpr ⟨KP (by decide) (by decide) a,λ_ h=>absurd h Cu⟩⟩⟩⟩⟩⟩
def ko(p:List Int):∃AC,Ae T3 10 113 [.lst (p.map V.int)] ⟨λAt=>none,0⟩=some (.bool true,AC):=by show AJ (en (n:=0) p) λi g T=>kP (eo (n:=0) p ⟨i,0,0,rfl,g,by decide⟩) λX l q L t t1 m1 N Q Y=>?_;have r:∀{C:Type}{z:List C},z.length<=3->z.length+(10+170*l.length)<lim:=λh=>Ai (Ft h (EJ (Nat.mul_le_mul_left 170 L.ul) 10)) (by decide);have w:Wk (10+170*l.length) X:=⟨En L.pn (AQ (by decide) L.n9),r (t▸by decide),r (m1▸by decide),r (t1▸by decide),λk v h=>AS (m1▸h:BK [] k=some v)⟩;have I:Iv B0 Q0 (cr X) []:=Y5 (c:=cr X) t t1 m1;show g0 (n:=0) (O:=10) (l.map λj=>V.ref j.1) l X [] (upd (upd (JQ p) 40 (.ref 8)) 41 (.int q)) L.pn L.lst (λj s=>L.use j s) w I (Bo.mpr ⟨rfl,Bo.mpr ⟨rfl,Bo.mpr ⟨rfl,Bo.mpr ⟨rfl,λ_ h=>absurd h Cu⟩⟩⟩⟩) λu x d c B o A D y m=>?_;have H:GN x l:=⟨o,AQ L.n9 A,B▸L.lst,λj s=>CW (L.use j s) λa b M q=>⟨a,AZ b A,B▸M,q⟩,L.ul⟩;have E:O5 u:=⟨(m 22 (by decide)).trans rfl,(m 23 (by decide)).trans rfl,(m 29 (by decide)).trans rfl,(m 30 (by decide)).trans rfl,(m 40 (by decide)).trans rfl⟩;have f:u 41=some (.int q):=(m 41 (by decide)).trans rfl;show dx (n:=0) (c:=X) t (QS q) x u (dz ⟨N,Q⟩) H y.inv D.v0 D.t0 y E λO G e=>?_;have n:(U X).objs 8=some (.list (l.map λj=>V.ref j.1)):=IU L.pn (by decide) L.lst;show⟨_,F0 (B:=T3) (n:=9) (w:=113) (D:=[.lst (p.map V.int)]) ?r ?r (T _ (Y _ (AI (Ea (F2 (AH ?r) n) c) (AI (Ea (EC (d3 f) ?r) e) (Ap (BL ?r))))))⟩
end
end
end
end Mine
end
section
open PySem PySem.W PyProof.Rows
set_option maxRecDepth 100000
set_option pp.deepTerms.threshold 5
namespace Mine
mutual
open A
noncomputable def C6:Ez:=⟨Ek,KL,L8,Ls,[(0,.tup [.tup [.int 0,.int 1]],Str.ofString "TRUTHS")],varNames,Y2,fV,ah,List.range 9,[27],4000000⟩
theorem u1(P:Params):XT (DS.heap_39 P) C6=true:=by kernel_rfl
theorem u2(P:Params):Uq (DS.heap_39 P) C6 ((C6.Ek.map (·.1)).filter λw=>!C6.spec.contains w)=true:=by kernel_rfl
theorem jM(P:Params):((C6.Ek.map (·.1)).filter λw=>!C6.spec.contains w).map (TC (DS.heap_39 P) C6)=((C6.Ek.map (·.1)).filter λw=>!C6.spec.contains w).map λw=>Pf (DS.heap_39 P) (Du (DS.heap_39 P) C6 w):=by kernel_rfl
theorem jW:namesOk C6.vars=true:=by kernel_rfl
theorem t4:namesOk C6.attrs=true:=by kernel_rfl
theorem t5:importsNone DS.view_39=true:=by kernel_rfl
theorem t6(P:Params):KW (nsIn (DS.heap_39 P) mainGlobals "law") (Du (DS.heap_39 P) C6 113)=true:=by kernel_rfl
noncomputable def dC(P:Params):FuncData:=(fdOf (DS.heap_39 P) (Du (DS.heap_39 P) C6 27)).getD default
theorem jK(w:Nat)(h:C6.spec.contains w=true):w=27:=by simpa[C6]using h
theorem jL:C6.Ek.lookup 27=some ⟨[42],[.Hu 45 42 2,.assign (.attr (.var 42) 0) .none],false⟩:=by kernel_rfl
theorem kl(M:Plain C6.OZ 113):PySem.Challenge.rw_no0333_03.Holds:=DS (by
 intro w FM g Do E G Y W o EQ R doc S Db b At AC Z u c Q FS P x r y C t;have d:=kIn_of Y;refine Ground.open G ?_;intro T B D L N;wrow_args x r y C t;rename_i Ch _ _ _ _ _ _ _ a H _ l _ _ _ k _ v _;have F:Facts (bF PySem.Challenge.rw_no0333_03.row.prog w (DS.heap_39 w.params) C6 g jW t4):=⟨d,T.nolimit,⟨E,T.b,T.builtins⟩,by obtain⟨mm,⟨o,_,_,b,_⟩,_⟩:=(T.seer t5).mods;show(g.heap.get? sysModules).isSome=true;rw[b];rfl⟩;have X:=jr F C6 (λ_=>rfl) (λ_=>rfl) (λ_=>rfl) (u1 w.params) (u2 w.params) (k:=jM w.params) λh i f Fn z p n K A j O Fk V Fs e Fa s H I q=>by cases jK f z;cases AP (jL.symm.trans p);exact jA F h (g:=dC w.params) (k:=344) (cl:=333) (c:=2) (t:=0) (i:=42) (r:=(dF (DS.heap_39 w.params) 344).getD #[]) (h:=(clsIn (DS.heap_39 w.params) (Ej (DS.heap_39 w.params) C6 2)).getD default) (v:=Str.ofString "/claim/cut.py") (tf:=632) (x:=Str.ofString "self") (A:=Str.ofString "partial") (L:=.type "function") (b:=none) (y:=#[]) (ck:=.type "cell") (kd:=none) (N:=#[]) (p:=.type "code") (I:=none) (O:=#[]) (u:=0) (H:=⟨227,8,227,13⟩) (G:=⟨227,8,227,15⟩) (o:=⟨227,8,227,24⟩) (l:=⟨227,8,227,26⟩) (M:=⟨227,8,227,26⟩) (E:=⟨228,8,228,12⟩) (m:=⟨228,8,228,20⟩) (Q:=⟨228,23,228,27⟩) (T:=⟨228,8,228,27⟩) (e:=⟨Str.ofString "self",none,⟨226,17,226,21⟩⟩) (w:=((DS.heap_39 w.params).lookup (Ej (DS.heap_39 w.params) C6 2)).getD default) (z:=((DS.heap_39 w.params).lookup (Du (DS.heap_39 w.params) C6 45)).getD default) (by kernel_rfl) (by kernel_rfl) (by kernel_rfl) (by kernel_rfl) (by kernel_rfl) (by kernel_rfl) (by kernel_rfl) (by kernel_rfl) (by kernel_rfl) (by kernel_rfl) (by kernel_rfl) (by kernel_rfl) (by kernel_rfl) (by kernel_rfl) (by kernel_rfl) (by kernel_rfl) (by kernel_rfl) (by kernel_rfl) (by kernel_rfl) (by kernel_rfl) (by kernel_rfl) (by kernel_rfl) (by kernel_rfl) (by kernel_rfl) (by kernel_rfl) (by kernel_rfl) (by kernel_rfl) (by kernel_rfl) (by kernel_rfl) (by kernel_rfl) (by kernel_rfl) (by kernel_rfl) (by kernel_rfl) (by kernel_rfl) (by kernel_rfl) (i 0 (by kernel_rfl)) K j e I q
 have e:=Value.ref.inj (AP (u.symm.trans (mg_of d T.g (Lz (t6 w.params)))));subst e;exact ek X rfl rfl c M l k v λEv m b c=>dj (λ_=>rfl) (by first|rfl|wrow_post) m b c)
end
end Mine
end
theorem PySem.Challenge.cw_no0333_03_holds : PySem.Challenge.rw_no0333_03.Holds :=
 Mine.kl fun is _=>⟨10,by decide,(rfl:Mine.C6.OZ=Mine.T3)▸Mine.ko is⟩
