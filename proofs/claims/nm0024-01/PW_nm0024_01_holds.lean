import PyProof.Rows.All
import Wide.All
import OpenK.AllK
import Wide.FinOn
import PySem.Challenge.RW_nm0024_01
set_option Elab.async false
set_option bootstrap.genMatcherCode false
set_option genSizeOf false
set_option genCtorIdx false
set_option genInjectivity false
set_option autoImplicit true
set_option linter.all false
set_option tactic.hygienic false
set_option maxRecDepth 100000
noncomputable section
namespace Internal.Mp
open PySem PySem.W PySem.Calls PyProof.Rows PySem.SeqAt
def ac:=@Nat.le_trans
def ag:=@Option.some.inj
def au:=@Nat.lt_of_le_of_lt
def aH:=@Nat.le_refl
def aJ:=@congrArg
def aN:=@Eq.symm
def bl:=@Nat.lt_of_lt_of_le
def bo:=@List.getElem?_eq_some_iff
def bt:=@of_decide_eq_true
def bw:=@Nat.le_add_right
def bC:=@Nat.le_of_lt
def bF:=@List.mem_singleton
def bT:=@wpAny_bind
def bU:=@List.length_map
def bX:=@Nat.le_succ_of_le
def cq:=@List.mem_of_getElem?
def cr:=@List.mem_append
def cs:=@List.all_eq_true
def cC:=@Exists.elim
def cG:=@List.mem_map
def cH:=@List.getElem?_eq_getElem
def cX:=@Nat.add_le_add_left
def cY:=@Int.ofNat_lt
def de:=@Nat.le_of_eq
def di:=@List.map_map
def dt:=@List.prefix_rfl
def dA:=@beq_eq_false_iff_ne
def dN:=@List.length_append
def dT:=@List.drop_eq_getElem_cons
def dU:=@List.map_cons
def dV:=@Nat.add_le_add
def em:=@decide_eq_true
def ey:=@Prod.mk.inj
def ez:=@beq_iff_eq
def eA:=@Nat.lt_succ_of_le
def eB:=@Nat.le_of_lt_succ
def ex:=@Nat.le_of_ble_eq_true
def eT:=@Nat.zero_le
def e':=@decide_eq_false
def e_:=@Nat.le_succ
def fa:=@wpAny_pure
def fv:=@Ne.symm
def fw:=@Int.natCast_nonneg
def fx:=@wpAny_mono
def fy:=@Bool.and_eq_true
def fz:=@List.map_append
def fI:=@Option.map_eq_some_iff
def fJ:=@List.mem_range
def fY:=@List.not_mem_nil
def fZ:=@List.length_set
def gj:=@Heap.get?_push_size
def gk:=@Nat.le_antisymm
def gA:=@Nat.lt_of_not_le
def gB:=@sizeLine_eq
def gV:=@wpAny_holding
def gW:=@List.append_assoc
def gX:=@List.append_nil
def gY:=@Nat.le_add_left
def gZ:=@Heap.get?_push_of_some
def g':=@Nat.le_of_not_lt
def g_:=@Int.ofNat_le
def ha:=@Nat.sub_lt_sub_left
def hw:=@List.getElem?_map
def hx:=@List.cons_append
def hy:=@Nat.add_le_add_right
def hX:=@List.nodup_cons
def hY:=@List.getD_eq_getElem?_getD
def hZ:=@List.contains_iff_mem
def iI:=@List.getElem?_append_left
def iJ:=@Nat.ne_of_lt
def iK:=@List.mem_append_left
def iB:=@List.find?_cons
def iC:=@List.length_range
def iD:=@Bool.false_ne_true
def iE:=@List.nodup_append
def iF:=@List.getElem?_append_right
def iG:=@Nat.ne_of_gt
def iH:=@Int.not_lt_of_ge
def jg:=@List.take_of_length_le
def jh:=@Heap.dictOf_iff
def ji:=@beq_self_eq_true
def jj:=@List.all_cons
def jk:=@typeIs_str
def jl:=@spliced_cons
def jm:=@Nat.not_lt_zero
def jJ:=@List.cons.inj
def jK:=@Nat.lt_of_succ_lt
def jL:=@Int.fmod_eq_emod_of_nonneg
def jM:=@List.length_drop
def kn:=@List.mem_cons
def kp:=@Bool.and_eq_true_iff
def kq:=@Nat.add_comm
def kr:=@List.getElem?_set_self
def ks:=@call_meets
def kt:=@List.getElem?_eq_none_iff
def ku:=@Int.emod_nonneg
def lk:=@Nat.min_eq_left
def lc:=@Bool.eq_iff_iff
def le:=@Nat.sub_le
def lf:=@Nat.not_lt
def lg:=@List.getElem?_set_ne
def lh:=@PySem.F.plainAttrs_str
def li:=@Nat.lt_succ_self
def lj:=@of_decide_eq_false
def lT:=@List.singleton_append
def lU:=@Bool.or_false
def lV:=@List.length_cons
def lW:=@Int.lt_of_lt_of_le
def lX:=@Nat.lt_trans
def lY:=@spliced_nil
def lZ:=@wpAny_Name
def l':=@wpAny_BinOp
def l_:=@List.prefix_append
def ma:=@wpAny_standAt
def mb:=@Bool.not_eq_true'
def mc:=@callWith_builtin
def md:=@List.nodup_nil
def m_:=@Nat.add_sub_cancel'
def na:=@Nat.min_eq_right
def nb:=@List.dropWhile_cons_of_neg
def nc:=@List.dropWhile_cons_of_pos
def nd:=@List.drop_eq_nil_of_le
def ne:=@List.getElem?_drop
def nf:=@Nat.succ_le_succ
def ng:=@Nat.add_lt_add_left
def nh:=@Nat.not_lt_of_le
def ni:=@wpAny_with_toks
def nj:=@wpAny_Constant_str
def nk:=@evalArgs_plain
def nl:=@Nat.mul_le_mul_left
def no:=@wpAny_execs_cons
def np:=@List.mem_reverse
def nq:=@Bool.or_eq_true
def mY:=@List.nil_append
def mZ:=@List.filter_eq_self
def m':=@Int.emod_lt_of_pos
def oC:=@List.getElem_mem
def oD:=@Int.le_trans
def oE:=@List.drop_of_length_le
def oF:=@wpAny_loadName_local
def oG:=@List.getElem_inj
def oH:=@wpAny_execs_nil
def oI:=@wpAny_of_eq
def oJ:=@List.reverse_append
def oK:=@Int.ofNat.inj
def oL:=@Nat.zero_add
def qq:=@Option.bind_eq_some_iff
def qr:=@List.takeWhile_cons
def qs:=@List.map_congr_left
def qt:=@List.takeWhile_cons_of_neg
def qu:=@List.takeWhile_cons_of_pos
def qv:=@Nat.succ_add_eq_add_succ
def qw:=@List.getElem?_of_mem
def qx:=@List.drop_length
def qy:=@List.drop_zero
def qz:=@PySem.F.slot_str_split
def qA:=@wpAny_Constant_int
def qB:=@Name_function_global
def qC:=@wpAny_Call_NameR
def qk:=@Nat.lt_or_ge
def ql:=@wpAny_storeName_local
def qm:=@Nat.succ_pos
def qn:=@List.cons.injEq
def qo:=@Nat.le_of_sub_eq_zero
def qp:=@List.prefix_refl
def sv:=@wpAny_truthy_bool
def sw:=@List.reverse_reverse
def sx:=@List.getElem?_reverse
def sy:=@List.getElem_of_mem
def sz:=@List.getElem_append_left
def sA:=@Nat.pos_of_ne_zero
def sB:=@Nat.min_le_left
def sC:=@PySem.F.entry_str_split
def sD:=@ne_true_of_eq_false
def sE:=@PySem.F.slot_dict_get
def sF:=@List.find?_eq_none
def sG:=@decide_eq_true_eq
def sH:=@PyProof.Rows.callWith_type
def sI:=@List.getElem?_zip_eq_some
def sJ:=@wpAny_assign_Name
def sK:=@Nat.pos_iff_ne_zero
def sL:=@List.getLast?_map
def sM:=@List.length_take
def sN:=@List.getElem?_take_of_lt
def sO:=@List.mem_of_mem_take
def sP:=@List.take_length
def sQ:=@Nat.lt_of_lt_of_eq
def sR:=@List.mem_append_right
def yj:=@List.dropWhile_cons
def yk:=@List.takeWhile_append_dropWhile
def yl:=@Heap.get?_none_of_le
def ym:=@Bool.or_eq_false_iff
def yn:=@PySem.F.args_str_split_2
def yo:=@PySem.F.plainAttrs_list
def yp:=@PySem.F.slot_list_append
def xV:=@PySem.F.plainAttrs_dict
def xW:=@PySem.F.slot_dict_pop
def xX:=@wpAny_Call_method_lateS
def xY:=@PySem.F.slot_str_replace
def xZ:=@PySem.F.type_str_replace
def x':=@List.length_filterMap_le
def x_:=@Option.map_eq_none_iff
def ya:=@List.reverse_singleton
def yb:=@List.mem_of_find?_eq_some
def yc:=@List.length_filter_le
def yd:=@Nat.add_lt_add_of_lt_of_le
def ye:=@Nat.le_of_add_le_add_right
def yf:=@Nat.mul_le_mul_right
def yg:=@Nat.pow_le_pow_right
def yh:=@Int.fdiv_eq_ediv_of_nonneg
def yi:=@Int.emod_add_mul_ediv
abbrev B:=List Nat
set_option genInjectivity true in set_option genCtorIdx true in inductive aD where|c|d(z:Bool)|b(i:Int)|a(s:B)deriving DecidableEq,Inhabited
set_option genInjectivity true in set_option genCtorIdx true in inductive V where|f(Q:aD)|d(z:List V)|g(z:List V)|e(G:List (aD×aD))|k(O:List V)|c(L:Nat)|i deriving Inhabited
noncomputable abbrev V.j:V:=.f .c
noncomputable abbrev V.h(z:Bool):V:=.f (.d z)
noncomputable abbrev V.b(z:Int):V:=.f (.b z)
noncomputable abbrev V.a(z:B):V:=.f (.a z)
theorem C{z:Type}{r}{y:Prop}(h:(none:Option z)=some r):y:=nomatch h
theorem am{z:Prop}(h:false=true):z:=nomatch h
theorem D{z:Type _}{y:z->Prop}{q:z->Prop}{Q:Prop}(h:∃a,y a/\q a)(k:∀a,y a->q a->Q):Q:=cC h λa h=>have j:=(h).1;have h:=(h).2;k a j h
theorem ae{z:Prop}{y:Prop}{Q:Prop}(h:z/\y)(k:z->y->Q):Q:=have q:=(h).1;have h:=(h).2;k q h
theorem av{y:Type _}{z:y->Prop}{Q:Prop}(h:∃a,z a)(k:∀a,z a->Q):Q:=cC h λa h=>k a h
theorem bk{z:Prop}{y:Prop}{q:Prop}{Q:Prop}(h:z/\y/\q)(k:z->y->q->Q):Q:=have j:=(h).1;have h:=(h).2;have u:=(h).1;have h:=(h).2;k j u h
theorem bg{z:Type _}{y:Type _}{q:z->y->Prop}{j:z->y->Prop}{Q:Prop}(h:∃a,∃b,q a b/\j a b)(k:∀a,∀b,q a b->j a b->Q):Q:=cC h λa h=>cC h λb h=>have u:=(h).1;have h:=(h).2;k a b u h
theorem bB{z:Type _}{y:Type _}{q:Type _}{j:z->y->q->Prop}{u:z->y->q->Prop}{Q:Prop}(h:∃a,∃b,∃c,j a b c/\u a b c)(k:∀a,∀b,∀c,j a b c->u a b c->Q):Q:=cC h λa h=>cC h λb h=>cC h λc h=>have g:=(h).1;have h:=(h).2;k a b c g h
theorem bP{z:Type _}{y:Type _}{q:z->y->Prop}{j:z->y->Prop}{u:z->y->Prop}{Q:Prop}(h:∃a,∃b,q a b/\j a b/\u a b)(k:∀a,∀b,q a b->j a b->u a b->Q):Q:=cC h λa h=>cC h λb h=>have g:=(h).1;have h:=(h).2;have w:=(h).1;have h:=(h).2;k a b g w h
theorem go{y:Type _}{q:Type _}{z:y->q->Prop}{Q:Prop}(h:∃a,∃b,z a b)(k:∀a,∀b,z a b->Q):Q:=cC h λa h=>cC h λb h=>k a b h
theorem gn{z:Type _}{y:z->Prop}{q:z->Prop}{j:z->Prop}{Q:Prop}(h:∃a,y a/\q a/\j a)(k:∀a,y a->q a->j a->Q):Q:=cC h λa h=>have u:=(h).1;have h:=(h).2;have g:=(h).1;have h:=(h).2;k a u g h
theorem hg{z:Type _}{y:Type _}{q:Type _}{j:z->y->q->Prop}{u:z->y->q->Prop}{g:z->y->q->Prop}{Q:Prop}(h:∃a,∃b,∃c,j a b c/\u a b c/\g a b c)(k:∀a,∀b,∀c,j a b c->u a b c->g a b c->Q):Q:=cC h λa h=>cC h λb h=>cC h λc h=>have w:=(h).1;have h:=(h).2;have o:=(h).1;have h:=(h).2;k a b c w o h
theorem gN{z:Type _}{y:Type _}{q:z->y->Prop}{j:z->y->Prop}{u:z->y->Prop}{g:z->y->Prop}{Q:Prop}(h:∃a,∃b,q a b/\j a b/\u a b/\g a b)(k:∀a,∀b,q a b->j a b->u a b->g a b->Q):Q:=cC h λa h=>cC h λb h=>have w:=(h).1;have h:=(h).2;have o:=(h).1;have h:=(h).2;have d:=(h).1;have h:=(h).2;k a b w o d h
theorem hQ{z:Prop}{y:Prop}{q:Prop}{j:Prop}{u:Prop}{Q:Prop}(h:z/\y/\q/\j/\u)(k:z->y->q->j->u->Q):Q:=have g:=(h).1;have h:=(h).2;have w:=(h).1;have h:=(h).2;have o:=(h).1;have h:=(h).2;have d:=(h).1;have h:=(h).2;k g w o d h
theorem ja{y:Type _}{q:Type _}{j:Type _}{u:Type _}{g:Type _}{z:y->q->j->u->g->Prop}{Q:Prop}(h:∃a,∃b,∃c,∃d,∃e,z a b c d e)(k:∀a,∀b,∀c,∀d,∀e,z a b c d e->Q):Q:=cC h λa h=>cC h λb h=>cC h λc h=>cC h λd h=>cC h λe h=>k a b c d e h
theorem iq{z:Type _}{y:Type _}{q:Type _}{j:Type _}{u:z->y->q->j->Prop}{g:z->y->q->j->Prop}{Q:Prop}(h:∃a,∃b,∃c,∃d,u a b c d/\g a b c d)(k:∀a,∀b,∀c,∀d,u a b c d->g a b c d->Q):Q:=cC h λa h=>cC h λb h=>cC h λc h=>cC h λd h=>have w:=(h).1;have h:=(h).2;k a b c d w h
theorem kS{z:Prop}{y:Prop}{q:Prop}{j:Prop}{Q:Prop}(h:z/\y/\q/\j)(k:z->y->q->j->Q):Q:=have u:=(h).1;have h:=(h).2;have g:=(h).1;have h:=(h).2;have w:=(h).1;have h:=(h).2;k u g w h
theorem kT{z:Type _}{y:Type _}{q:Prop}{j:z->y->Prop}{u:z->y->Prop}{g:z->y->Prop}{Q:Prop}(h:q/\∃a,∃b,j a b/\u a b/\g a b)(k:q->∀a,∀b,j a b->u a b->g a b->Q):Q:=have w:=(h).1;have h:=(h).2;cC h λa h=>cC h λb h=>have o:=(h).1;have h:=(h).2;have d:=(h).1;have h:=(h).2;k w a b o d h
theorem se{z:Type _}{y:Type _}{q:Prop}{j:z->y->Prop}{u:z->y->Prop}{Q:Prop}(h:q/\∃a,∃b,j a b/\u a b)(k:q->∀a,∀b,j a b->u a b->Q):Q:=have g:=(h).1;have h:=(h).2;cC h λa h=>cC h λb h=>have w:=(h).1;have h:=(h).2;k g a b w h
theorem qg{z:Type _}{y:Type _}{q:Prop}{j:Prop}{u:z->y->Prop}{g:z->y->Prop}{Q:Prop}(h:q/\j/\∃a,∃b,u a b/\g a b)(k:q->j->∀a,∀b,u a b->g a b->Q):Q:=have w:=(h).1;have h:=(h).2;have o:=(h).1;have h:=(h).2;cC h λa h=>cC h λb h=>have d:=(h).1;have h:=(h).2;k w o a b d h
theorem sf{y:Type _}{q:Type _}{j:Type _}{u:Type _}{z:y->q->j->u->Prop}{Q:Prop}(h:∃a,∃b,∃c,∃d,z a b c d)(k:∀a,∀b,∀c,∀d,z a b c d->Q):Q:=cC h λa h=>cC h λb h=>cC h λc h=>cC h λd h=>k a b c d h
theorem vP{z:Prop}{y:Prop}{q:Prop}{j:Prop}{u:Prop}{g:Prop}{Q:Prop}(h:z/\y/\q/\j/\u/\g)(k:z->y->q->j->u->g->Q):Q:=have w:=(h).1;have h:=(h).2;have o:=(h).1;have h:=(h).2;have d:=(h).1;have h:=(h).2;have c:=(h).1;have h:=(h).2;have f:=(h).1;have h:=(h).2;k w o d c f h
theorem vQ{q:Type _}{j:Type _}{u:Type _}{g:Type _}{z:Prop}{y:q->j->u->g->Prop}{Q:Prop}(h:z/\∃a,∃b,∃c,∃d,y a b c d)(k:z->∀a,∀b,∀c,∀d,y a b c d->Q):Q:=have w:=(h).1;have h:=(h).2;cC h λa h=>cC h λb h=>cC h λc h=>cC h λd h=>k w a b c d h
theorem vR{z:Type _}{y:z->Prop}{q:z->Prop}{j:z->Prop}{u:z->Prop}{Q:Prop}(h:∃a,y a/\q a/\j a/\u a)(k:∀a,y a->q a->j a->u a->Q):Q:=cC h λa h=>have g:=(h).1;have h:=(h).2;have w:=(h).1;have h:=(h).2;have o:=(h).1;have h:=(h).2;k a g w o h
@[elab_as_elim]theorem J{y:Type _}{a b}{z:y->Prop}(h:a=b)(x:z b):z a:=h▸x
theorem ax{q}{j}{y:q->j->Prop}a b(z:y a b):∃a b,y a b:=⟨a,b,z⟩
theorem dK{q}{j}{u}{y:q->j->u->Prop}a b c(z:y a b c):∃a b c,y a b c:=⟨a,b,c,z⟩
theorem nO{q}{j}{u}{g}{y:q->j->u->g->Prop}a b c d(z:y a b c d):∃a b c d,y a b c d:=⟨a,b,c,d,z⟩
theorem pe{q}{j}{u}{g}{w}{y:q->j->u->g->w->Prop}a b c d e(z:y a b c d e):∃a b c d e,y a b c d e:=⟨a,b,c,d,e,z⟩
theorem mP{q}{j}{u}{g}{w}{o}{y:q->j->u->g->w->o->Prop}a b c d e f(z:y a b c d e f):∃a b c d e f,y a b c d e f:=⟨a,b,c,d,e,f,z⟩
theorem Kl{w}{o}{m}{p}{t}{y}{q}{j}{u:w->o->m->p->t->y->q->j->Prop}a b c d e(f:y)(g:q)(k:j)(z:u a b c d e f g k):∃a b c d e f g k,u a b c d e f g k:=⟨a,b,c,d,e,f,g,k,z⟩
theorem Km{m}{p}{t}{r}{y}{q}{j}{u}{w}{o:m->p->t->r->y->q->j->u->w->Prop}a b c d(e:y)(f:q)(g:j)(k:u)(i:w)(z:o a b c d e f g k i):∃a b c d e f g k i,o a b c d e f g k i:=⟨a,b,c,d,e,f,g,k,i,z⟩
theorem wy a b:min a b+(b-a+1)=b+1:=(Nat.le_total a b).elim (λh=>J (lk h) (aJ Nat.succ (m_ h))) λh=>J (na h) (J (Nat.sub_eq_zero_of_le h) rfl)
theorem ia{z:Prop}(t:b=true->z)(f:b=false->z):z:=match b,t,f with|true,t,_=>t rfl|false,_,f=>f rfl
theorem tS{z:Prop}(f:b=false->z)(t:b=true->z):z:=ia t f
theorem fC{y}{o:Option y}{z:Prop}(n:o=none->z)(s:∀v,o=some v->z):z:=match o,n,s with|none,n,_=>n rfl|some v,_,s=>s v rfl
@[elab_as_elim]theorem va{z:Type _}{u}{a y:z}{b q}{j:z->u->Prop}(h:(a,b)=(y,q))(x:j a b):j y q:=(ey h).1▸(ey h).2▸x
@[elab_as_elim]theorem lv{z:Type _}{u}{a y:z}{b q}{j:z->u->Prop}(h:some (a,b)=some (y,q))(x:j a b):j y q:=va (ag h) x
@[elab_as_elim]theorem Qe{z:Type _}{u}{a y:z}{b q}{j:z->u->Prop}(h:some (a,b)=some (y,q))(x:j y q):j a b:=va (ag h).symm x
@[elab_as_elim]theorem dF{q}{a v}{l}{z:q->Prop}(h:v∈a::l)(x:z a)(y:v∈l->z v):z v:=(kn.mp h).elim (λe=>e▸x) y
theorem kB{z y:Type}{m}{f:z->Option y}{b}(h:m.bind f=some b):∃a,m=some a/\f a=some b:=qq.mp h
theorem wx{z y:Type}{m}{f:z->y}{b}(h:m.map f=some b):∃a,m=some a/\f a=b:=fI.mp h
section
variable{j u g q:Type}{G:Prop}
theorem aP{m}{f:j->Option q}(h:m.bind f=some b)(k:∀a,m=some a->f a=some b->G):G:=D (kB h) k
theorem eo{m}{f:j×u->Option q}(h:m.bind f=some b)(k:∀x y,m=some (x,y)->f (x,y)=some b->G):G:=aP h λa=>k a.1 a.2
theorem tQ{m}{f:j×u×g->Option q}(h:m.bind f=some b)(k:∀x y z,m=some (x,y,z)->f (x,y,z)=some b->G):G:=aP h λa=>k a.1 a.2.1 a.2.2
theorem cb{m}{f:j->q}(h:m.map f=some b)(k:∀a,m=some a->f a=b->G):G:=D (wx h) k
theorem vn{m}{f:j×u->q}(h:m.map f=some b)(k:∀x y,m=some (x,y)->f (x,y)=b->G):G:=cb h λa=>k a.1 a.2
theorem MH{m}{f:j×u×g->q}(h:m.map f=some b)(k:∀x y z,m=some (x,y,z)->f (x,y,z)=b->G):G:=cb h λa=>k a.1 a.2.1 a.2.2
end
theorem ch{G:Prop}(h:(a&&b)=true)(k:a=true->b=true->G):G:=have h:=kp.mp h;k h.1 h.2
theorem cy(z:a=true)(y:b=true):(a&&b)=true:=kp.mpr ⟨z,y⟩
theorem aE(h:(a&&b)=true):a=true/\b=true:=kp.mp h
theorem wz{c:Prop} [Decidable c]{q:Type}{x}{y:q}(h:(if c then x else none)=some y):c/\x=some y:=by
 by_cases z:c;. rw [if_pos z]at h;exact⟨z,h⟩
 . rw [if_neg z]at h;exact C h
theorem eI{c:Prop} [Decidable c]{z:Type}{x}{y:z}{G:Prop}(h:(if c then x else none)=some y)(k:c->x=some y->G):G:=ae (wz h) k
noncomputable def V.q:V->Option aD|.f z=>some z|.d _=>none|.g _=>none|.e _=>none|.k _=>none|.c _=>none|.i=>none
noncomputable def V.n:V->Option B|.f z=>(match z with|.c=>none|.d _=>none|.b _=>none|.a Z=>some Z)|.d _=>none|.g _=>none|.e _=>none|.k _=>none|.c _=>none|.i=>none
noncomputable def V.l:V->Option Int|.f z=>(match z with|.c=>none|.d _=>none|.b Z=>some Z|.a _=>none)|.d _=>none|.g _=>none|.e _=>none|.k _=>none|.c _=>none|.i=>none
noncomputable def V.u:V->Option Nat|.f _=>none|.d _=>none|.g _=>none|.e _=>none|.k _=>none|.c z=>some z|.i=>none
noncomputable def V.p:V->Option (List V)|.f _=>none|.d z=>some z|.g _=>none|.e _=>none|.k _=>none|.c _=>none|.i=>none
noncomputable def V.r:V->Option (List (aD×aD))|.f _=>none|.d _=>none|.g _=>none|.e z=>some z|.k _=>none|.c _=>none|.i=>none
noncomputable def fs{z:Type}:List z->Option z|[]=>none|x::l=>(match l with|[]=>some x|_::_=>none)
def op{z:Type}:List z->Option (z×z)|[]=>none|x::l=>(fs l).map λy=>(x,y)
noncomputable def sZ{z:Type}:List z->Option (z×z×z)|[]=>none|x::l=>(op l).map λy=>(x,y)
theorem V.s{z:V}(Q:z.q=some G):z=.f G:=by induction z using V.casesOn<;>first|exact C Q|(obtain rfl:=ag Q;rfl)
set_option tactic.hygienic true in theorem V.o{z:V}(Q:z.n=some G):z=.a G:=by
 induction z using V.casesOn<;>first|exact C Q|skip
 rename_i Z;induction Z<;>first|exact C Q|(obtain rfl:=ag Q;rfl)
set_option tactic.hygienic true in theorem V.m{z:V}(Q:z.l=some G):z=.b G:=by
 induction z using V.casesOn<;>first|exact C Q|skip
 rename_i Z;induction Z<;>first|exact C Q|(obtain rfl:=ag Q;rfl)
theorem V.v{z:V}(Q:z.u=some G):z=.c G:=by induction z using V.casesOn<;>first|exact C Q|(obtain rfl:=ag Q;rfl)
theorem V.t{z:V}{Q}(G:z.p=some Q):z=.d Q:=by induction z using V.casesOn<;>first|exact C G|(obtain rfl:=ag G;rfl)
theorem V.x{z:V}(Q:z.r=some G):z=.e G:=by induction z using V.casesOn<;>first|exact C Q|(obtain rfl:=ag Q;rfl)
theorem fO{z:Type}{l}{x:z}(h:fs l=some x):l=[x]:=by match l with|[]=>exact C h|[y]=>obtain rfl:=ag h;rfl|_::_::_=>exact C h
theorem pH{q:Type}{l}{x:q×q}(h:op l=some x):l=[x.1,x.2]:=by induction l using List.casesOn with|nil=>exact C h|cons y l=>obtain⟨z,j,rfl⟩:=fI.mp h;(refine J (fO j) ?_;rfl)
theorem xt{q:Type}{l}{x:q×q×q}(h:sZ l=some x):l=[x.1,x.2.1,x.2.2]:=by induction l using List.casesOn with|nil=>exact C h|cons y l=>obtain⟨z,j,rfl⟩:=fI.mp h;(refine J (pH j) ?_;rfl)
abbrev af:=List V
abbrev cM(z:Type):=af->Option (z×af)
abbrev dd:=Nat->List V->cM V
abbrev ao:=List (Option V)
noncomputable def ak:Nat:=1000000
noncomputable def ca(c:Nat):Bool:=Unicode.isSpace c
noncomputable def dI(p:Nat->Bool)(l:B):B:=((l.dropWhile p).reverse.dropWhile p).reverse
noncomputable def cc(c:Nat):B->List B|[]=>[[]]|x::l=>if x=c then []::cc c l else match cc c l with|w::z=>(x::w)::z|[]=>[[x]]
noncomputable def cn:B->List B|[]=>[]|x::l=>if ca x then cn l else match l with|[]=>[[x]]|y::_=>if ca y then [x]::cn l else match cn l with|w::z=>(x::w)::z|[]=>[[x]]
theorem rS{c x}{l:B}:cc c (x::l)=if x=c then []::cc c l else match cc c l with|w::z=>(x::w)::z|[]=>[[x]]:=rfl
theorem Fo{x}{l:B}:cn (x::l)=if ca x then cn l else match l with|[]=>[[x]]|y::_=>if ca y then [x]::cn l else match cn l with|w::z=>(x::w)::z|[]=>[[x]]:=rfl
noncomputable def du(c:Nat):B->B×B×B|[]=>([],[],[])|x::l=>if x=c then([],[c],l)else let r:=du c l;(x::r.1,r.2.1,r.2.2)
theorem uZ{c x}{l:B}:du c (x::l)=if x=c then([],[c],l)else(x::(du c l).1,(du c l).2.1,(du c l).2.2):=rfl
def fP(c:Nat)(l:B):B×B×B:=let r:=du c l.reverse;if r.2.1=[]then([],[],l)else(r.2.2.reverse,[c],r.1.reverse)
noncomputable def lt(c:Nat)(l:B):Int:=if l.contains c then(fP c l).1.length else-1
noncomputable def dQ(a:Nat)(b:B)(l:B):B:=l.flatMap λx=>if x=a then b else [x]
noncomputable def gK(a z:Nat)(b:B):B->B|[]=>[]|[x]=>[x]|x::y::l=>if x=a/\y=z then b++gK a z b l else x::gK a z b (y::l)
theorem Ph{a z x y}{b l:B}:gK a z b (x::y::l)=if x=a/\y=z then b++gK a z b l else x::gK a z b (y::l):=rfl
noncomputable def cm(z:B):List B->B|[]=>[]|[x]=>x|x::y::l=>x++z++cm z (y::l)
theorem CM{l}:cm s (x::y::l)=x++s++cm s (y::l):=rfl
noncomputable def wE(c:Nat):Bool:=48<=c&&c<=57
def uY(l:B):Option Nat:=if l=[]\/!l.all wE\/600<l.length then none else some (l.foldl (λn c=>10*n+(c-48)) 0)
noncomputable def ls:B->Option Int|45::l=>Option.map (λn:Nat=>-(n:Int)) (uY l)|l=>Option.map (λn:Nat=>(n:Int)) (uY l)
noncomputable def dW(i:Int):B:=(toString i).toList.map Char.toNat
noncomputable def h_(n:Nat)(i:Int):Nat:=(max 0 (min (if i<0 then i+n else i) n)).toNat
def ce{y:Type}(z:List y)(q j:Option Int):List y:=let a:=q.elim 0 (h_ z.length);let b:=j.elim z.length (h_ z.length);(z.drop a).take (b-a)
noncomputable def bM{y:Type}(z:List y)(i:Int):Option y:=if 0<=i then z[i.toNat]? else if-(z.length:Int)<=i then z[(i+z.length).toNat]? else none
noncomputable def iS:aD->aD->Option Bool|.c,.c=>some true|.d a,.d b=>some (a==b)|.b a,.b b=>some (a==b)|.a a,.a b=>some (a==b)|.c,.b _|.c,.a _|.b _,.c|.a _,.c|.b _,.a _|.a _,.b _=>some false|_,_=>none
noncomputable def h'(f:V->V->Option Bool):List V->List V->Option Bool|[],[]=>some true|x::z,y::q=>(f x y).bind λa=>(h' f z q).map λb=>a&&b|[],_::_|_::_,[]=>none
noncomputable def ep:Nat->V->V->Option Bool|0,_,_=>none|n+1,x,y=>match x,y with|.f a,.f b=>iS a b|.f .c,.g _=>some false|.g _,.f .c=>some false|.d z,.d q=>if z.length=q.length then h' (ep n) z q else some false|.g z,.g q=>if z.length=q.length then h' (ep n) z q else none|_,_=>none
noncomputable def eD(k:aD):List V->Option Bool|[]=>some false|y::z=>(match y with|.f a=>(iS a k).bind λc=>(eD k z).map λb=>c||b|.d _=>none|.g _=>none|.e _=>none|.k _=>none|.c _=>none|.i=>none)
noncomputable def wC:V->List V->Option Bool|.f k,z=>eD k z|.d _,_|.g _,_|.e _,_|.k _,_|.c _,_|.i,_=>none
noncomputable def aO(y:af):V->V|.f a=>.f a|.d z=>.d z|.g z=>.g z|.e d=>.e d|.k z=>.k z|.c n=>y.getD n .i|.i=>.i
noncomputable def jD:aD->Bool|.c=>false|.d _=>false|.b _=>true|.a _=>true
noncomputable def bD(d:List (aD×aD))(k:aD):Option aD:=(d.find? λe=>e.1=k).map (λO=>O.2)
noncomputable def fh:List (aD×aD)->aD->aD->List (aD×aD)|[],k,v=>[(k,v)]|e::d,k,v=>if e.1=k then(k,v)::d else e::fh d k v
theorem oe{k v}:fh (e::d) k v=if e.1=k then(k,v)::d else e::fh d k v:=rfl
noncomputable def kw:List (aD×aD)->aD->List (aD×aD)|[],_=>[]|e::d,k=>if e.1=k then d else e::kw d k
theorem B_:kw (e::d) k=if e.1=k then d else e::kw d k:=rfl
def jW(y:af)(v:V):Option (List V):=match aO y v with|.f _=>none|.d z=>some z|.g z=>some z|.e _=>none|.k _=>none|.c _=>none|.i=>none
def ev(z:af)(v:V):Option Bool:=match aO z v with|.f a=>(match a with|.c=>some false|.d b=>some b|.b i=>some (i !=0)|.a s=>some (!s.isEmpty))|.d y=>some (!y.isEmpty)|.g _=>none|.e _=>none|.k _=>none|.c _=>none|.i=>none
noncomputable def cw(i:Int):Bool:=i.natAbs<2^200
def jA(f:Int->Int->Option V)(a b:V):Option V:=a.l.bind λx=>b.l.bind λy=>f x y
def Bp(f:B->B->Option V)(a b:V):Option V:=a.n.bind λx=>b.n.bind λy=>f x y
def Bo(f:List V->List V->Option V)(a b:V):Option V:=a.p.bind λx=>b.p.bind λy=>f x y
def yK(a b:V):Option V:=match a with|.f x=>(match x with|.c=>jA (λx y=>some (.b (x+y))) a b|.d _=>jA (λx y=>some (.b (x+y))) a b|.b _=>jA (λx y=>some (.b (x+y))) a b|.a _=>Bp (λx y=>if x.length+y.length<ak then some (.a (x++y))else none) a b)|.d _=>Bo (λx y=>if x.length+y.length<ak then some (.d (x++y))else none) a b|.g _=>none|.e _=>none|.k _=>none|.c _=>none|.i=>none
def cZ(z:af)(q:Operator)(a b:V):Option V:=match q with|.Add=>yK (aO z a) (aO z b)|.Sub=>jA (λx y=>some (.b (x-y))) (aO z a) (aO z b)|.Mult=>jA (λx y=>if cw x&&cw y then some (.b (x*y))else none) (aO z a) (aO z b)|.FloorDiv=>jA (λx y=>if y≠0&&cw y then some (.b (x.fdiv y))else none) (aO z a) (aO z b)|.Mod=>jA (λx y=>if y≠0&&cw y then some (.b (x.fmod y))else none) (aO z a) (aO z b)|.Pow=>jA (λx y=>if x=256&&0<=y&&y<=4 then some (.b (x^y.toNat))else none) (aO z a) (aO z b)|.BitXor=>jA (λx y=>some (.b (Builtin.bitXor x y))) (aO z a) (aO z b)|_=>none
noncomputable def V.w:V->Option Unit|.f z=>(match z with|.c=>some ()|.d _=>none|.b _=>none|.a _=>none)|.d _=>none|.g _=>none|.e _=>none|.k _=>none|.c _=>none|.i=>none
set_option tactic.hygienic true in theorem V.y{z:V}(Q:z.w=some G):z=.j:=by
 induction z using V.casesOn<;>first|exact C Q|skip
 rename_i Z;induction Z<;>first|exact C Q|rfl
noncomputable def wG:V->Option Bool|.f a=>(match a with|.c=>some true|.d _=>some false|.b _=>some false|.a _=>some false)|.d _=>some false|.g _=>some false|.e _=>some false|.k _=>some false|.c _=>some false|.i=>none
def bp(q:af)(u:CmpOp)(a b:V):Option Bool:=match u with|.Eq=>ep 6 (aO q a) (aO q b)|.NotEq=>(ep 6 (aO q a) (aO q b)).map (λO=>!O)|.Lt=>a.l.bind λx=>b.l.map λy=>decide (x<y)|.LtE=>a.l.bind λx=>b.l.map λy=>decide (x<=y)|.Gt=>a.l.bind λx=>b.l.map λy=>decide (y<x)|.GtE=>a.l.bind λx=>b.l.map λy=>decide (y<=x)|.Is=>b.w.bind λO=>wG a|.IsNot=>b.w.bind λO=>(wG a).map (λO=>!O)|.In=>z a (aO q b)|.NotIn=>(z a (aO q b)).map (λO=>!O)where z(a b:V):Option Bool:=match b with|.d j=>wC a j|.g j=>wC a j|.e d=>a.q.bind λk=>if jD k then some (bD d k).isSome else none|.f x=>(match x with|.a s=>a.n.bind λt=>(fs t).map λc=>s.contains c|_=>none)|_=>none
def a_(y:af)(a i:V):Option V:=match aO y a with|.f x=>(match x with|.c=>none|.d _=>none|.b _=>none|.a s=>i.l.bind λk=>(bM s k).map λc=>.a [c])|.d z=>i.l.bind (bM z)|.g z=>i.l.bind (bM z)|.e d=>i.q.bind λk=>if jD k then(bD d k).map .f else none|.k _=>none|.c _=>none|.i=>none
def hz:List V->Option (Option Int)|[]=>some none|v::l=>(fs (v::l)).bind λv=>v.l.map some
def iV(z:af)(a:V)(y q:List V):Option V:=(hz y).bind λl=>(hz q).bind λh=>match aO z a with|.f x=>(match x with|.c=>none|.d _=>none|.b _=>none|.a s=>some (.a (ce s l h)))|.d j=>some (.d (ce j l h))|.g _=>none|.e _=>none|.k _=>none|.c _=>none|.i=>none
def eY(z:af)(a i v:V):Option af:=a.u.bind λn=>(z[n]?).bind λx=>match x with|.f _=>none|.d y=>i.l.bind λk=>if 0<=k/\k<y.length then some (z.set n (.d (y.set k.toNat v)))else none|.g _=>none|.e d=>i.q.bind λk=>if jD k&&decide (d.length<ak)then v.q.map λx=>z.set n (.e (fh d k x))else none|.k _=>none|.c _=>none|.i=>none
set_option genCtorIdx true in inductive hW where|n|l|x|F|K|m|e|q|u|t|y deriving DecidableEq
noncomputable def hW.R:hW->Str|.n=>"strip"|.l=>"split"|.x=>"partition"|.F=>"rpartition"|.K=>"rfind"|.m=>"join"|.e=>"append"|.q=>"extend"|.u=>"insert"|.t=>"get"|.y=>"pop"
set_option genCtorIdx true in inductive lM where|a|d|b|c deriving DecidableEq
noncomputable def lM.e:lM->Str|.a=>"len"|.d=>"min"|.b=>"int"|.c=>"str"
noncomputable def gL(r:B×B×B):V:=.g [.a r.1,.a r.2.1,.a r.2.2]
noncomputable def qh:List V->Option (List B)|[]=>some []|v::l=>v.n.bind λs=>(qh l).map (λO=>s::O)
def D'(z:af)(a:V)(q:List V):Option (V×af):=a.n.bind λs=>match q with|[]=>some (.a (dI ca s),z)|y::j=>(fs (y::j)).bind λy=>y.n.map λy=>(.a (dI (λO=>y.contains O) s),z)
def D9(z:af)(a:V)(q:List V):Option (V×af):=a.n.bind λs=>match q with|[]=>some (.d ((cn s).map .a),z)|y::j=>(fs (y::j)).bind λy=>y.n.bind λt=>(fs t).map λc=>(.d ((cc c s).map .a),z)
def nG(f:B->Nat->V)(z:af)(a:V)(q:List V):Option (V×af):=a.n.bind λs=>(fs q).bind λy=>y.n.bind λt=>(fs t).map λc=>(f s c,z)
def D7(y:af)(a:V)(q:List V):Option (V×af):=a.n.bind λs=>(fs q).bind λl=>(aO y l).p.bind λj=>(qh j).bind λz=>if((z.map (λO=>O.length)).sum+z.length*s.length)<ak then some (.a (cm s z),y)else none
def D3(z:af)(a:V)(q:List V):Option (V×af):=a.u.bind λn=>(fs q).bind λv=>(z[n]?).bind λx=>x.p.bind λy=>if y.length<ak then some (.j,z.set n (.d (y++[v])))else none
def D4(z:af)(a:V)(j:List V):Option (V×af):=a.u.bind λn=>(fs j).bind λv=>v.p.bind λy=>(z[n]?).bind λx=>x.p.bind λq=>if q.length+y.length<ak then some (.j,z.set n (.d (q++y)))else none
def D6(y:af)(a:V)(q:List V):Option (V×af):=a.u.bind λn=>(op q).bind λp=>p.1.l.bind λk=>(y[n]?).bind λx=>x.p.bind λz=>if 0<=k/\k<ak/\z.length<ak then some (.j,y.set n (.d (z.take k.toNat++p.2::z.drop k.toNat)))else none
def D5(y:af)(d:V)(q:List V):Option (V×af):=(op q).bind λp=>p.1.q.bind λk=>p.2.q.bind λz=>(aO y d).r.bind λd=>if jD k then some (.f ((bD d k).getD z),y)else none
def D8(y:af)(a:V)(q:List V):Option (V×af):=a.u.bind λn=>(op q).bind λp=>p.1.q.bind λk=>p.2.q.bind λz=>(y[n]?).bind λx=>x.r.bind λd=>if jD k then some (.f ((bD d k).getD z),y.set n (.e (kw d k)))else none
def cN(z:af)(m:hW)(a:V)(y:List V):Option (V×af):=match m with|.n=>D' z a y|.l=>D9 z a y|.x=>nG (λs c=>gL (du c s)) z a y|.F=>nG (λs c=>gL (fP c s)) z a y|.K=>nG (λs c=>.b (lt c s)) z a y|.m=>D7 z a y|.e=>D3 z a y|.q=>D4 z a y|.u=>D6 z a y|.t=>D5 z a y|.y=>D8 z a y
noncomputable def pp:V->Bool|.f _=>false|.d _=>true|.g _=>false|.e _=>false|.k _=>false|.c _=>false|.i=>false
noncomputable def qH:V->Bool|.f _=>false|.d _=>false|.g _=>false|.e _=>true|.k _=>false|.c _=>false|.i=>false
noncomputable def Dh:V->Bool|.f a=>(match a with|.c=>false|.d _=>false|.b _=>false|.a _=>true)|.d _=>false|.g _=>false|.e _=>false|.k _=>false|.c _=>false|.i=>false
def ek(z:af)(m:hW)(a:V):Bool:=match m with|.e|.q|.u=>pp (aO z a)|.t|.y=>qH (aO z a)|.n|.l|.x|.F|.K|.m=>Dh (aO z a)
def mD(a:V)(x y:B):Option V:=a.n.bind λs=>(fs x).bind λc=>(fs y).bind λd=>if c=d then none else some (.a (dQ c [d] s))
def pO(s c:B):Option B:=(op c).bind λp=>(fs (dI ca c)).map λb=>gK p.1 p.2 [b] s
noncomputable def so:B->List B->Option B|s,[]=>some s|s,c::z=>(pO s c).bind λy=>so y z
noncomputable def pV:B->B->Option B|s,[]=>some s|s,c::z=>if c=32 then none else pV (dQ c [32] s) z
noncomputable def yV(v:V):Option V:=match v with|.f x=>(match x with|.c=>none|.d _=>none|.b _=>none|.a s=>some (.b s.length))|.d z=>some (.b z.length)|.g _=>none|.e d=>some (.b d.length)|.k _=>none|.c _=>none|.i=>none
def Ho(v:V):Option V:=match v with|.f x=>(match x with|.c=>none|.d b=>some (.b (if b then 1 else 0))|.b _=>none|.a s=>(ls s).map .b)|.d _=>none|.g _=>none|.e _=>none|.k _=>none|.c _=>none|.i=>none
def f'(y:af)(b:lM)(z:List V):Option V:=match b with|.a=>(fs z).bind λv=>yV (aO y v)|.d=>(op z).bind λp=>p.1.l.bind λa=>p.2.l.map λb=>.b (if b<a then b else a)|.b=>(fs z).bind Ho|.c=>(fs z).bind λv=>v.l.bind λi=>if cw i then some (.a (dW i))else none
noncomputable def pG:V->Option V|.f a=>(match a with|.c=>none|.d _=>none|.b i=>some (.b (-i))|.a _=>none)|.d _=>none|.g _=>none|.e _=>none|.k _=>none|.c _=>none|.i=>none
mutual noncomputable def dB(n:Nat):V->Bool|.f _=>true|.d z=>c_ n z|.g z=>c_ n z|.e _=>true|.k z=>c_ n z|.c k=>k<n|.i=>true noncomputable def c_(n:Nat):List V->Bool|[]=>true|x::z=>dB n x&&c_ n z end
mutual noncomputable def cP(n:Nat)(q:af):V->Option V|.f a=>some (.f a)|.d z=>if c_ n z then some (.d z)else none|.g z=>(pN n q z).map .g|.e d=>some (.e d)|.k z=>if c_ n z then some (.k z)else none|.c k=>if k<n then some (.c k)else(match q.getD k .i with|.f _=>none|.d z=>if c_ n z then some (.d z)else none|.g _=>none|.e d=>some (.e d)|.k _=>none|.c _=>none|.i=>none)|.i=>some .i noncomputable def pN(n:Nat)(q:af):List V->Option (List V)|[]=>some []|x::z=>(cP n q x).bind λy=>(pN n q z).map (λO=>y::O)end
theorem Og{n}{z}:cP n y (.g z)=(pN n y z).map .g:=rfl
theorem pM{n k}{z}(h:¬k<n)(e:y.getD k .i=.d z)(b:c_ n z=true):cP n y (.c k)=some (.d z):=by refine(?_:(if k<n then _ else _)=_);(refine J (if_neg h) ?_;refine J e ?_);exact if_pos b
theorem Of{n k}(h:¬k<n)(e:z.getD k .i=.e d):cP n z (.c k)=some (.e d):=by refine(?_:(if k<n then _ else _)=_);(refine J (if_neg h) ?_;refine J e ?_;rfl)
theorem EO{n}{q}(h:cP n z x=some y):pN n z (x::q)=(pN n z q).map (λO=>y::O):=by refine(?_:(cP n z x).bind _=_);(refine J h ?_);rfl
theorem oh{n}(q:cP n z x=some j)(u:cP n z y=some g):cP n z (.g [x,y])=some (.g [j,g]):=by(refine J Og ?_;refine J (EO q) ?_;refine J (EO u) ?_);rfl
inductive iy where|b|a(z:Bool)|c(i:Int)|d(l:B)
noncomputable def iy.e:iy->V|.b=>.j|.a z=>.h z|.c i=>.b i|.d l=>.a l
noncomputable def iy.f:iy->Const|.b=>.none|.a z=>.bool z|.c i=>.int i|.d l=>.str ⟨l.toArray⟩
noncomputable def pv:iy->aD|.b=>.c|.a b=>.d b|.c i=>.b i|.d l=>.a l
structure kj where
b:iy
d:iy
e:Nat
f:Nat
g:Pos
h:Pos
def kj.a(z:kj):Expr:=.Constant z.b.f z.e z.g
def kj.c(z:kj):Expr:=.Constant z.d.f z.f z.h
def eR(l:List kj):List (aD×aD):=l.map λc=>(pv c.b,pv c.d)
inductive aV where|f(L:iy)(Q:Nat)(z:Pos)|c(a0:Nat)(z:Pos)|s(Q:Nat)(z:Pos)|k(a7:Bool)(v:List aV)(z:Pos)|n(a1:Operator)(u G:aV)(z:Pos)|r(u:aV)(z:Pos)|h(u:aV)(z:Pos)|b(L u G:aV)(z:Pos)|i(a1:CmpOp)(u G:aV)(z:Pos)|o(u:aV)(a8:Nat)(z:Pos)|t(u a0:aV)(z:Pos)|a(u:aV)(a9 b0:List aV)(b1 z:Pos)|q(w:Bool)(v:List aV)(z:Pos)|m(v:List aV)(Q:Nat)(z:Pos)|e(w:Bool)(b2:List kj)(z:Pos)|d(w:Bool)(a2:aV)(x:Str)(a3:Pos)(O:Nat)(b3:List aV)(b4 b5:Pos)(a4:List aV)(sc:Scope)(z:Pos)|g(Q:Nat)(v:List aV)(a5 z:Pos)|p(G:lM)(v:List aV)(a5 z:Pos)|j(b6:hW)(u:aV)(v:List aV)(a6 z:Pos)|l(u:aV)(x y:B)(b7 b8:Nat)(a3 b9 a6 z:Pos)
inductive dS where|a(i:Nat)(p:Pos)|b(z:List dS)(p:Pos)|c(y i:aV)(p:Pos)
inductive aY where|f(t:dS)(z:aV)(p:Pos)|c(z:aV)(p:Pos)|a(y:aV)(s q:List aY)(p:Pos)|b(Q:List Nat)(t:dS)(j:Nat)(G:List aV)(O L:Pos)(q:List aY)(p:Pos)|e(y:aV)(q:List aY)(p:Pos)|g(z:List aV)(p:Pos)|d(p:Pos)|h(v x:Nat)(a0:List (B×Nat×Pos))(a1:Nat)(a2 u w o m a3 r a4 k a5 l n:Pos)|i(v x:Nat)(y:B)(a6 a7:Nat)(a8 u w o m a9 r k l n:Pos)
def cj:Nat->Str|0=>"text"|1=>"kind"|2=>"name"|_=>"parts"
noncomputable def ou(n:Int):List V:=(List.range n.toNat).map λi:Nat=>.b (i:Int)
noncomputable def oQ(a b:Int):List V:=(List.range (a-b).toNat).map λi:Nat=>.b (a-(i:Int))
noncomputable def nw(d:List (aD×aD)):List V:=d.map λe=>.f e.1
def L'(v:V):Option (List V):=match v with|.f _=>none|.d z=>some z|.g _=>none|.e d=>some (nw d)|.k _=>none|.c _=>none|.i=>none
def Ds(z:List V):Option (List V):=(fs z).bind L'
def ul(z:List V):Option (List V):=(fs z).bind λv=>v.l.bind λn=>if-(ak:Int)<=n/\n<ak then some (ou n)else none
def Dt(z:List V):Option (List V):=(sZ z).bind λp=>p.1.l.bind λa=>p.2.1.l.bind λb=>p.2.2.l.bind λc=>if-(ak:Int)<=a/\a<ak/\b=-1/\c=-1 then some (oQ a b)else none
noncomputable def jO(z:List V):List V:=(List.range z.length).zip z|>.map λp=>.g [.b p.1,p.2]
def Du(z:List V):Option (List V):=(fs z).bind λv=>v.p.map jO
noncomputable def gs(z:Nat)(y:List V):Option (List V):=match z with|0=>Ds y|1=>ul y|2=>Dt y|3=>Du y|_=>none
noncomputable def fL(j:V->cM V)(z:V->cM Bool):List V->List V->cM (List V)|[],y=>λu=>some (y,u)|x::g,y=>λu=>(z x u).bind λr=>if r.1 then(j x r.2).bind λq=>if y.length<ak then fL j z g (y++[q.1]) q.2 else none else fL j z g y r.2
def eU(z:Bool)(v:V):cM V:=λy=>if z then some (.c y.length,y++[v])else some (v,y)
noncomputable def dR(z:ao)(i:Nat):Option V:=(z[i]?).join
abbrev ds:=Nat->Option V
noncomputable def gu:List (aD×aD)->Bool|[]=>true|e::d=>!(d.any λz=>z.1=e.1)&&gu d
noncomputable def gh(m:cM V):cM V×cM Bool:=(m,λz=>(m z).bind λr=>(ev r.2 r.1).map λb=>(b,r.2))
noncomputable def uO{z:Type}(c:cM Bool)(a b:cM z):cM z:=λy=>(c y).bind λr=>if r.1 then a r.2 else b r.2
def rg(z:CmpOp)(a b:cM V):cM Bool:=λy=>(a y).bind λr=>(b r.2).bind λq=>(bp q.2 z r.1 q.1).map λv=>(v,q.2)
noncomputable def FK(m:cM Bool):cM V:=λz=>(m z).map λr=>(.h r.1,r.2)
mutual noncomputable def aT(G:ds)(g:dd):aV->ao->cM V×cM Bool
|.f c _ _,_=>gh λj=>some (c.e,j)|.c i _,z=>gh λj=>(dR z i).map λv=>(v,j)|.s k _,_=>gh λj=>(G k).map λv=>(v,j)|.k d w _,z=>(nM G g d w z,mO G g d w z)|.n t a b _,z=>gh λj=>((aT G g a z).1 j).bind λr=>((aT G g b z).1 r.2).bind λq=>(cZ q.2 t r.1 q.1).map λv=>(v,q.2)|.r a _,z=>gh λj=>((aT G g a z).1 j).bind λr=>(pG r.1).map λv=>(v,r.2)|.h a _,z=>(λj=>((aT G g a z).1 j).bind λr=>(ev r.2 r.1).map λb=>(.h (!b),r.2),λj=>((aT G g a z).2 j).map λr=>(!r.1,r.2))|.b c a b _,z=>(uO (aT G g c z).2 (aT G g a z).1 (aT G g b z).1,uO (aT G g c z).2 (aT G g a z).2 (aT G g b z).2)|.i t a b _,z=>(FK (rg t (aT G g a z).1 (aT G g b z).1),rg t (aT G g a z).1 (aT G g b z).1)|.o a f _,z=>gh λj=>((aT G g a z).1 j).bind λr=>match r.1 with|.k h=>(h[f]?).map λv=>(v,r.2)|_=>none
|.t a i _,z=>gh λj=>((aT G g a z).1 j).bind λr=>((aT G g i z).1 r.2).bind λq=>(a_ q.2 r.1 q.1).map λv=>(v,q.2)|.a a Z Y _ _,z=>gh λj=>((aT G g a z).1 j).bind λr=>(dC G g Z z r.2).bind λq=>(dC G g Y z q.2).bind λu=>(iV u.2 r.1 q.1 u.1).map λv=>(v,u.2)|.q o w _,z=>gh λj=>(dC G g w z j).bind λr=>eU o (.d r.1) r.2|.m w _ _,z=>gh λj=>(dC G g w z j).map λr=>(.g r.1,r.2)|.e o l _,_=>gh λj=>if gu (eR l)then eU o (.e (eR l)) j else none|.d o n _ _ p Q _ _ s _ _,z=>gh λj=>(dC G g Q z j).bind λr=>(gs p r.1).bind λJ=>(fL (λx j=>(aT G g n [some x]).1 j) (λx j=>jP G g s [some x] j) J [] r.2).bind λq=>eU o (.d q.1) q.2|.g k w _ _,z=>gh λj=>(dC G g w z j).bind λr=>g k r.1 r.2|.p b w _ _,z=>gh λj=>(dC G g w z j).bind λr=>(f' r.2 b r.1).map λv=>(v,r.2)|.j m a w _ _,z=>gh λj=>((aT G g a z).1 j).bind λr=>if ek r.2 m r.1 then(dC G g w z r.2).bind λq=>cN q.2 m r.1 q.1 else none|.l a x y _ _ _ _ _ _,z=>gh λj=>((aT G g a z).1 j).bind λr=>(mD r.1 x y).map λv=>(v,r.2)noncomputable def dC(G:ds)(g:dd):List aV->ao->cM (List V)|[],_=>λj=>some ([],j)|e::w,z=>λj=>((aT G g e z).1 j).bind λr=>(dC G g w z r.2).map λq=>(r.1::q.1,q.2)noncomputable def nM(G:ds)(g:dd):Bool->List aV->ao->cM V|_,[],_=>λO=>none|d,e::w,z=>λj=>((aT G g e z).1 j).bind λr=>match w with|[]=>some r|_::_=>(ev r.2 r.1).bind λb=>if b=d then nM G g d w z r.2 else some r noncomputable def mO(G:ds)(g:dd):Bool->List aV->ao->cM Bool|d,[],_=>λj=>some (d,j)|d,e::w,z=>λj=>((aT G g e z).2 j).bind λr=>if r.1=d then mO G g d w z r.2 else some r noncomputable def jP(G:ds)(g:dd):List aV->ao->cM Bool|[],_=>λj=>some (true,j)|e::w,z=>λj=>((aT G g e z).2 j).bind λr=>if r.1 then jP G g w z r.2 else some (false,r.2)end
abbrev qK(G:ds)(z:dd)(e:aV)(y:ao):cM V:=(aT G z e y).1
abbrev BP(G:ds)(z:dd)(e:aV)(y:ao):cM Bool:=(aT G z e y).2
set_option genInjectivity true in set_option genCtorIdx true in inductive eM where|a|c|b(v:V)
abbrev dc:=Option (eM×ao×af)
mutual noncomputable def fn(G:ds)(j:dd):dS->V->ao->af->Option (ao×af)|.a i _,v,z,y=>if i<z.length then some (z.set i (some v),y)else none|.b g _,v,z,y=>(jW y v).bind λu=>if u.length=g.length then lD G j g u z y else none|.c a i _,v,z,y=>(qK G j a z y).bind λr=>(qK G j i z r.2).bind λq=>(eY q.2 r.1 q.1 v).map λw=>(z,w)noncomputable def lD(G:ds)(j:dd):List dS->List V->ao->af->Option (ao×af)|[],_,z,y=>some (z,y)|t::g,u,z,y=>match u with|x::u=>(fn G j t x z y).bind λr=>lD G j g u r.1 r.2|[]=>none end
noncomputable def jN(z:V->ao->af->Option (ao×af))(y:ao->af->dc):List V->ao->af->dc|[],j,u=>some (.a,j,u)|x::g,j,u=>(z x j u).bind λr=>(y r.1 r.2).bind λq=>match q.1 with|.b v=>some (.b v,q.2)|_=>jN z y g q.2.1 q.2.2
noncomputable def mU(z:ao->cM Bool)(y:ao->af->dc):Nat->ao->af->dc|0,_,_=>none|n+1,j,u=>(z j u).bind λr=>if r.1 then(y j r.2).bind λq=>match q.1 with|.b v=>some (.b v,q.2)|_=>mU z y n q.2.1 q.2.2 else some (.a,j,r.2)
noncomputable def K4:V->Bool|.f _=>false|.d _=>true|.g _=>false|.e _=>true|.k _=>false|.c _=>false|.i=>false
def Ai(i:Nat)(z:ao)(y:af):Option (ao×af):=(dR z i).bind λv=>v.u.bind λk=>(y[k]?).bind λx=>if K4 x then some (z.set i (some x),y.set k .i)else none
noncomputable def nt:List Nat->ao->af->Option (ao×af)|[],z,y=>some (z,y)|i::q,z,y=>(Ai i z y).bind λr=>nt q r.1 r.2
theorem Le{c:Prop} [Decidable c]{q:Type}{x}{y:q}(h:(if c then none else x)=some y):¬c/\x=some y:=by
 by_cases z:c;. rw [if_pos z]at h;exact C h
 . rw [if_neg z]at h;exact⟨z,h⟩
theorem FV{c:Prop} [Decidable c]{z:Type}{x}{y:z}{G:Prop}(h:(if c then none else x)=some y)(k:¬c->x=some y->G):G:=ae (Le h) k
def EZ(v x:Nat)(y:List (B×Nat×Pos))(z:ao)(q:af):dc:=(dR z v).bind λa=>a.n.bind λs=>if v=x\/z.length<=x then none else(so s (y.map (λO=>O.1))).map λt=>(.a,(match y.getLast? with|some c=>z.set x (some (.a c.1))|none=>z).set v (some (.a t)),q)
def Eg(v x:Nat)(c:B)(z:ao)(y:af):dc:=(dR z v).bind λa=>a.n.bind λs=>if v=x\/z.length<=x then none else(pV s c).map λt=>(.a,(match c.getLast? with|some c=>z.set x (some (.a [c]))|none=>z).set v (some (.a t)),y)
mutual noncomputable def az(G:ds)(u:dd)(w:Nat):aY->ao->af->dc
|.f t e _,y,j=>(qK G u e y j).bind λr=>(fn G u t r.1 y r.2).map λq=>(.a,q)|.c e _,y,j=>(qK G u e y j).bind λr=>match r.1 with|.f _=>some (.a,y,r.2)|_=>none
|.a c a b _,y,j=>(BP G u c y j).bind λr=>if r.1 then aI G u w a y r.2 else aI G u w b y r.2|.b o t g d _ _ b _,y,j=>(nt o y j).bind λz=>(dC G u d z.1 z.2).bind λr=>(gs g r.1).bind λf=>jN (λx y j=>fn G u t x y j) (λy j=>aI G u w b y j) f z.1 r.2|.e c b _,y,j=>mU (λy j=>BP G u c y j) (λy j=>aI G u w b y j) w y j|.g m _,y,j=>match m with|[]=>some (.b .j,y,j)|e::_=>(qK G u e y j).map λr=>(.b r.1,y,r.2)
|.d _,y,j=>some (.c,y,j)|.h v x p _ _ _ _ _ _ _ _ _ _ _ _ _,y,j=>EZ v x p y j|.i v x c _ _ _ _ _ _ _ _ _ _ _ _,y,j=>Eg v x c y j noncomputable def aI(G:ds)(u:dd)(w:Nat):List aY->ao->af->dc|[],y,j=>some (.a,y,j)|s::k,y,j=>(az G u w s y j).bind λq=>match q.1 with|.a=>aI G u w k q.2.1 q.2.2|_=>some q end
structure bn where
d:Str
a:Nat
b:List Str
e:Nat
c:List aY
noncomputable def eC(n:Nat):af->Bool|[]=>true|c::z=>dB n c&&eC n z
def nu(G:ds)(z:dd)(w:Nat)(f:bn)(y:List V):cM V:=λj=>(aI G z w f.c (y.map some++List.replicate (f.b.length-f.a) none) j).map λq=>(match q.1 with|.b v=>v|_=>.j,q.2.2)
def nC(G:ds)(j:dd)(w:Nat)(f:bn)(y:List V):cM V:=λz=>if y.length=f.a then match f.e with|0=>if c_ 0 y then(nu G j w f y []).bind λq=>(cP 0 q.2 q.1).map λv=>(v,z)else none|1=>(nu G j w f y z).bind λq=>if eC z.length (q.2.take z.length)then(cP z.length q.2 q.1).map λv=>(v,q.2.take z.length)else none|_=>nu G j w f y z else none
structure fK where
a:List Str
b:List Str
noncomputable def og(z:Bool):BoolOp:=match z with|true=>.And|false=>.Or
noncomputable def bK(l:List Str)(i:Nat):Str:=l.getD i ⟨#[]⟩
mutual noncomputable def co(z:fK)(q:List Str):aV->Expr|.f c k p=>.Constant c.f k p|.c i p=>.Name (bK q i) p|.s k p=>.Name (bK z.b k) p|.k v j p=>.BoolOp (og v) (ed z q j) p|.n w a b p=>.BinOp (co z q a) w (co z q b) p|.r a p=>.UnaryOp .USub (co z q a) p|.h a p=>.UnaryOp .Not (co z q a) p|.b c a b p=>.IfExp (co z q c) (co z q a) (co z q b) p|.i w a b p=>.Compare (co z q a) [w] [co z q b] p|.o a f p=>.Attribute (co z q a) (cj f) p|.t a i p=>.Subscript (co z q a) (co z q i) p|.a a n s h p=>.Subscript (co z q a) (.Slice (ed z q n).head? (ed z q s).head? none h) p|.q _ j p=>.List (ed z q j) p|.m j k p=>.Tuple (ed z q j) k p|.e _ l p=>.Dict (l.map λc=>some c.a) (l.map kj.c) p|.d _ o x d u Z Y Q t J p=>.ListComp (co z [x] o) [⟨.Name x d,vN u (ed z q Z) Y Q,ed z [x] t,0⟩] J p|.g k j g p=>.Call (.Name (bK z.a k) g) (ed z q j) [] p|.p b j g p=>.Call (.Name b.e g) (ed z q j) [] p|.j m a j r p=>.Call (.Attribute (co z q a) m.R r) (ed z q j) [] p|.l a x y U G d W r p=>.Call (.Attribute (co z q a) "replace" r) [.Constant (.str ⟨x.toArray⟩) U d,.Constant (.str ⟨y.toArray⟩) G W] [] p noncomputable def ed(z:fK)(q:List Str):List aV->List Expr|[]=>[]|e::j=>co z q e::ed z q j noncomputable def vN(u:Nat)(j:List Expr)(g p:Pos):Expr:=match u with|0=>j.headD (.List [] p)|1=>.Call (.Name "range" g) j [] p|2=>.Call (.Name "range" g) j [] p|_=>.Call (.Name "enumerate" g) j [] p end
mutual noncomputable def gM(y:fK)(z:List Str):dS->Expr|.a i p=>.Name (bK z i) p|.b q p=>.Tuple (lx y z q) 0 p|.c a i p=>.Subscript (co y z a) (co y z i) p noncomputable def lx(y:fK)(z:List Str):List dS->List Expr|[]=>[]|t::q=>gM y z t::lx y z q end
mutual noncomputable def pZ(y:fK)(z:List Str):aY->Stmt|.f t e p=>.Assign [gM y z t] (co y z e) p|.c e p=>.Expr (co y z e) p|.a c a b p=>.If (co y z c) (ip y z a) (ip y z b) p|.b _ t q r k i b p=>.For (gM y z t) (vN q (ed y z r) k i) (ip y z b) [] p|.e c b p=>.While (co y z c) (ip y z b) [] p|.g l p=>.Return (ed y z l).head? p|.d p=>.Continue p|.h v x n h Z j u g w Y o Q d J f m=>.For (.Name (bK z x) j) (.Tuple (n.map λc=>.Constant (.str ⟨c.1.toArray⟩) c.2.1 c.2.2) h Z) [.Assign [.Name (bK z v) u] (.Call (.Attribute (.Name (bK z v) g) "replace" o) [.Name (bK z x) w,.Call (.Attribute (.Name (bK z x) Y) "strip" Q) [] [] J] [] d) f] [] m|.i v x c U G W j u g w O o d f m=>.For (.Name (bK z x) j) (.Constant (.str ⟨c.toArray⟩) U W) [.Assign [.Name (bK z v) u] (.Call (.Attribute (.Name (bK z v) g) "replace" o) [.Name (bK z x) w,.Constant (.str ⟨#[32]⟩) G O] [] d) f] [] m noncomputable def ip(y:fK)(z:List Str):List aY->List Stmt|[]=>[]|s::D=>pZ y z s::ip y z D end
noncomputable abbrev bh(l a b:Nat):Pos:=⟨l,a,l,b⟩
noncomputable abbrev VO:Pos:=⟨0,0,0,0⟩
noncomputable def fo:fK:={a:=[.ofString "Line",.ofString "register_number",.ofString "name_and_parts",.ofString "read_line",.ofString "code_line",.ofString "is_jump",.ofString "is_branch",.ofString "never_falls",.ofString "is_label_text",.ofString "code_labels",.ofString "reaches_on",.ofString "is_turnable",.ofString "next_code",.ofString "labels_from",.ofString "reached_lines",.ofString "leads_of",.ofString "last_goal",.ofString "own_labels",.ofString "led_lines",.ofString "over_jump",.ofString "short_lines",.ofString "number_in",.ofString "told_number",.ofString "is_idle",.ofString "fetched_line",.ofString "set_register",.ofString "is_pair_known",.ofString "after",.ofString "needed_lines",.ofString "texts_of",.ofString "peephole",.ofString "_law_PLACES",.ofString "_law_OPS",.ofString "_law_ASKS",.ofString "_law_SETTING",.ofString "_law_STORES",.ofString "_law_draw",.ofString "_law_place",.ofString "_law_label",.ofString "_law_pair",.ofString "_law_through",.ofString "_law_over",.ofString "_law_item",.ofString "_law_end",.ofString "_law_text",.ofString "_law_number",.ofString "_law_read",.ofString "_law_signed",.ofString "_law_did",.ofString "_law_goes",.ofString "_law_spot",.ofString "_law_get",.ofString "_law_plain",.ofString "_law_run",.ofString "_law_kind",.ofString "_law_behind",.ofString "_law_is_jump",.ofString "_law_setter",.ofString "_law_brings",.ofString "_law_twice",.ofString "_law_leads",.ofString "_law_is_led",.ofString "_law_is_idle",.ofString "_law_goal_is_right",.ofString "_law_is_neat",.ofString "law"],b:=[.ofString "REGISTER_NAMES",.ofString "REGISTER_NUMBERS",.ofString "WORD_SIZE",.ofString "BRANCHES",.ofString "SETTING",.ofString "STORES",.ofString "LETTERS",.ofString "SIGNS",.ofString "SECTIONS",.ofString "_law_NAMES",.ofString "_law_WORD"]}
section
variable{l a b z j q k:Nat}
@[simp]noncomputable abbrev U(i:Nat):aV:=.c i (bh l a b)
@[simp]noncomputable abbrev dh(i:Nat):aV:=.s i (bh l a b)
@[simp]noncomputable abbrev M(x:B):aV:=.f (.d x) k (bh l a b)
@[simp]noncomputable abbrev T(x:Int):aV:=.f (.c x) k (bh l a b)
@[simp]noncomputable abbrev bz(x:iy):aV:=.f x k (bh l a b)
@[simp]noncomputable abbrev aa(x y:aV):aV:=.t x y (bh l a b)
@[simp]noncomputable abbrev E(o:CmpOp)(x y:aV):aV:=.i o x y (bh l a b)
@[simp]noncomputable abbrev aL(o:Operator)(x y:aV):aV:=.n o x y (bh l a b)
@[simp]noncomputable abbrev bd(x:aV)(f:Nat):aV:=.o x f (bh l a b)
@[simp]noncomputable abbrev aq(f:Nat)(x:List aV):aV:=.g f x (bh z j q) (bh l a b)
@[simp]noncomputable abbrev cd(f:lM)(x:List aV):aV:=.p f x (bh z j q) (bh l a b)
@[simp]noncomputable abbrev bI(f:hW)(e:aV)(x:List aV):aV:=.j f e x (bh z j q) (bh l a b)
@[simp]noncomputable abbrev aC(c:Bool)(x:List aV):aV:=.q c x (bh l a b)
@[simp]noncomputable abbrev br(c:Bool)(x:List aV):aV:=.k c x (bh l a b)
@[simp]noncomputable abbrev bx(x:List aV):aV:=.m x k (bh l a b)
@[simp]noncomputable abbrev dp(x:aV):aV:=.r x (bh l a b)
@[simp]noncomputable abbrev al(i:Nat):dS:=.a i (bh l a b)
@[simp]noncomputable abbrev cK(i:List dS):dS:=.b i (bh l a b)
@[simp]noncomputable abbrev hq(x y:aV):dS:=.c x y (bh l a b)
@[simp]noncomputable abbrev ay(t:dS)(x:aV):aY:=.f t x (bh l a b)
@[simp]noncomputable abbrev aB(x:List aV):aY:=.g x (bh l a b)
end
abbrev bv(q:List Str)(j:Nat):=(y z:List aY)->y=z->∀{a b c d e f g h i},PySem.Challenge.pw_nm0024_01.main.body[j]?=some (.FunctionDef a b (ip fo q z) c d e f g h i)->List aY
noncomputable def G8:List aY:=by
 refine(?f:bv ["text"] 4) ?y [aB [(bI .t (dh 1) [(U 0),(dp (T 1))])]] ?h rfl;. intro y;intros;exact y
 case h=>dsimp;exact rfl
def B9:bn:=⟨"register_number",1,["text"],0,G8⟩
def HK:List aY:=by
 refine(?f:bv ["plain","name","gap","rest"] 14) ?y [ay (cK [(al 1),(al 2),(al 3)]) (bI .x (.l (U 0) [9] [32] 0 0 _ _ _ _) [(M [32])]),aB [(bx [(U 1),(.b (E .NotEq (U 2) (M [])) (.d false (bI .n (U 0) []) "part" _ 0 [(bI .l (U 3) [(M [44])])] (bh 0 0 0) (bh 0 0 0) [] _ _) (aC false []) _)])]] ?h rfl;. intro y;intros;exact y
 case h=>dsimp;exact rfl
def z_:bn:=⟨"name_and_parts",1,["plain","name","gap","rest"],0,HK⟩
def yO:List aY:=by
 refine(?f:bv ["text","plain","first","name","parts"] 15) ?y [ay (al 1) (bI .n (U 0) []),.a (E .Eq (U 1) (M [])) [aB [(aq 0 [(U 0),(M [98,108,97,110,107]),(M []),(aC false [])])]] [] _,ay (al 2) (aa (bI .l (U 1) []) (T 0)),.a (br true [(E .Eq (.a (U 2) [] [(T 1)] _ _) (M [46])),(E .NotIn (M [58]) (U 2))]) [aB [(aq 0 [(U 0),(.b (E .Eq (U 2) (M [46,108,111,99])) (M [108,111,99]) (M [111,116,104,101,114]) _),(U 2),(aC false [])])]] [] _,.a (br false [(E .In (M [35]) (U 1)),(E .In (M [34]) (U 1))]) [ay (cK [(al 3),(al 4)]) (aq 2 [(bI .n (aa (bI .F (aa (bI .x (U 1) [(M [35])]) (T 0)) [(M [58])]) (T 2)) [])]),aB [(aq 0 [(U 0),(M [111,116,104,101,114]),(U 3),(U 4)])]] [] _,.a (br true [(E .Eq (.a (U 1) [(dp (T 1))] [] _ _) (M [58])),(E .NotIn (M [32]) (U 1)),(E .NotIn (M [9]) (U 1))]) [aB [(aq 0 [(U 0),(M [108,97,98,101,108]),(.a (U 1) [] [(dp (T 1))] _ _),(aC false [])])]] [] _,ay (cK [(al 3),(al 4)]) (aq 2 [(bI .n (aa (bI .F (U 1) [(M [58])]) (T 2)) [])]),aB [(aq 0 [(U 0),(.b (E .In (M [58]) (U 1)) (M [111,116,104,101,114]) (M [99,111,100,101]) _),(U 3),(U 4)])]] ?h rfl;. intro y;intros;exact y
 case h=>dsimp;exact rfl
def ph:bn:=⟨"read_line",1,["text","plain","first","name","parts"],0,yO⟩
def Gl:List aY:=by
 refine(?f:bv ["name","parts"] 16) ?y [aB [(aq 0 [(aL .Add (aL .Add (aL .Add (M [9]) (U 0)) (M [32])) (bI .m (M [44,32]) [(U 1)])),(M [99,111,100,101]),(U 0),(U 1)])]] ?h rfl;. intro y;intros;exact y
 case h=>dsimp;exact rfl
def zq:bn:=⟨"code_line",2,["name","parts"],0,Gl⟩
noncomputable def Gg:List aY:=by
 refine(?f:bv ["line"] 17) ?y [aB [(br true [(E .Eq (bd (U 0) 1) (M [99,111,100,101])),(E .Eq (bd (U 0) 2) (M [106,97,108])),(E .Eq (cd .a [(bd (U 0) 3)]) (T 2)),(E .Eq (aq 1 [(aa (bd (U 0) 3) (T 0))]) (T 0))])]] ?h rfl;. intro y;intros;exact y
 case h=>dsimp;exact rfl
def BW:bn:=⟨"is_jump",1,["line"],0,Gg⟩
noncomputable def Gn:List aY:=by
 refine(?f:bv ["line"] 18) ?y [aB [(br true [(E .Eq (bd (U 0) 1) (M [99,111,100,101])),(E .In (bd (U 0) 2) (dh 3)),(E .Eq (cd .a [(bd (U 0) 3)]) (T 3))])]] ?h rfl;. intro y;intros;exact y
 case h=>dsimp;exact rfl
def BV:bn:=⟨"is_branch",1,["line"],0,Gn⟩
noncomputable def HL:List aY:=by
 refine(?f:bv ["line"] 19) ?y [.a (aq 5 [(U 0)]) [aB [(bz (.a true))]] [] _,aB [(br true [(E .Eq (bd (U 0) 1) (M [99,111,100,101])),(E .Eq (bd (U 0) 2) (M [106,97,108,114])),(E .Eq (cd .a [(bd (U 0) 3)]) (T 2)),(E .Eq (aq 1 [(aa (bd (U 0) 3) (T 0))]) (T 0))])]] ?h rfl;. intro y;intros;exact y
 case h=>dsimp;exact rfl
def B8:bn:=⟨"never_falls",1,["line"],0,HL⟩
noncomputable def yL:List aY:=by
 refine(?f:bv ["text","first"] 20) ?y [ay (al 1) (.b (E .Eq (.a (U 0) [] [(T 1)] _ _) (M [46])) (.a (U 0) [(T 1)] [(T 2)] _ _) (.a (U 0) [] [(T 1)] _ _) _),aB [(br true [(E .NotEq (U 1) (M [])),(E .In (U 1) (dh 6)),(E .Eq (bI .n (U 0) [(dh 7)]) (M []))])]] ?h rfl;. intro y;intros;exact y
 case h=>dsimp;exact rfl
def qN:bn:=⟨"is_label_text",1,["text","first"],0,yL⟩
def iU:List aY:=by
 refine(?f:bv ["lines","found","is_code","line","place","name"] 21) ?y [ay (cK [(al 1),(al 2)]) (bx [(.e true [] _),(bz (.a true))]),.b [] (al 3) 0 [(U 0)] (bh 0 0 0) (bh 0 0 0) [.a (E .In (bd (U 3) 2) (dh 8)) [ay (al 2) (E .Eq (bd (U 3) 2) (M [46,116,101,120,116]))] [] _,ay (al 4) (bI .K (aa (bI .x (bd (U 3) 0) [(M [35])]) (T 0)) [(M [58])]),.a (br true [(U 2),(E .GtE (U 4) (T 0))]) [.b [] (al 5) 0 [(bI .l (.a (bd (U 3) 0) [] [(U 4)] _ _) [(M [58])])] (bh 0 0 0) (bh 0 0 0) [ay (hq (U 1) (bI .n (U 5) [])) (bz (.a true))] _] [] _] _,aB [(U 1)]] ?h rfl;. intro y;intros;exact y
 case h=>dsimp;exact rfl
def pf:bn:=⟨"code_labels",1,["lines","found","is_code","line","place","name"],0,iU⟩
noncomputable def oX:List aY:=by
 refine(?f:bv ["line","labels","plain","pair","sign","word"] 22) ?y [.a (br true [(E .NotIn (M [43]) (bd (U 0) 0)),(E .NotIn (M [45]) (bd (U 0) 0))]) [aB [(bz (.a false))]] [] _,ay (al 2) (bd (U 0) 0),.h 2 3 [([32,43],0,_),([43,32],0,_),([32,45],0,_),([45,32],0,_)] 0 _ _ _ _ _ _ _ _ _ _ _ _,.i 2 4 [40,41,44,9] 0 0 _ _ _ _ _ _ _ _ _ _,.b [] (al 5) 0 [(bI .l (U 2) [])] (bh 0 0 0) (bh 0 0 0) [.a (br true [(E .In (aa (bI .x (aa (bI .x (U 5) [(M [43])]) (T 0)) [(M [45])]) (T 0)) (U 1)),(E .NotIn (U 5) (U 1))]) [aB [(bz (.a true))]] [] _] _,aB [(bz (.a false))]] ?h rfl;. intro y;intros;exact y
 case h=>dsimp;exact rfl
def kE:bn:=⟨"reaches_on",2,["line","labels","plain","pair","sign","word"],0,oX⟩
noncomputable def qG:List aY:=by
 refine(?f:bv ["lines","labels","line"] 23) ?y [ay (al 1) (aq 9 [(U 0)]),.b [] (al 2) 0 [(U 0)] (bh 0 0 0) (bh 0 0 0) [.a (br false [(E .Eq (bd (U 2) 2) (M [97,117,105,112,99])),(aq 10 [(U 2),(U 1)])]) [aB [(bz (.a false))]] [] _,.a (br true [(E .In (.a (bd (U 2) 2) [] [(T 1)] _ _) (bx [(M [98]),(M [106])])),(E .NotEq (bd (U 2) 2) (M [106,97,108,114])),(E .NotEq (bd (U 2) 1) (M [108,97,98,101,108]))]) [.a (br false [(E .Eq (bd (U 2) 3) (aC false [])),(.h (aq 8 [(aa (bd (U 2) 3) (dp (T 1)))]) _)]) [aB [(bz (.a false))]] [] _] [] _] _,aB [(bz (.a true))]] ?h rfl;. intro y;intros;exact y
 case h=>dsimp;exact rfl
def zs:bn:=⟨"is_turnable",1,["lines","labels","line"],0,qG⟩
noncomputable def HM:List aY:=by
 refine(?f:bv ["lines","place"] 24) ?y [.e (br true [(E .Lt (U 1) (cd .a [(U 0)])),(E .In (bd (aa (U 0) (U 1)) 1) (bx [(M [108,97,98,101,108]),(M [98,108,97,110,107]),(M [108,111,99])]))]) [ay (al 1) (aL .Add (U 1) (T 1))] _,aB [(U 1)]] ?h rfl;. intro y;intros;exact y
 case h=>dsimp;exact rfl
def Aa:bn:=⟨"next_code",2,["lines","place"],0,HM⟩
noncomputable def yM:List aY:=by
 refine(?f:bv ["lines","place"] 25) ?y [aB [(.d false (bd (U 0) 2) "line" _ 0 [(.a (U 0) [(U 1)] [(aq 12 [(U 0),(U 1)])] _ _)] (bh 0 0 0) (bh 0 0 0) [(E .Eq (bd (U 0) 1) (M [108,97,98,101,108]))] _ _)]] ?h rfl;. intro y;intros;exact y
 case h=>dsimp;exact rfl
def zt:bn:=⟨"labels_from",2,["lines","place"],0,yM⟩
noncomputable def tR:List aY:=by
 refine(?f:bv ["lines","found","is_dead","line"] 26) ?y [ay (cK [(al 1),(al 2)]) (bx [(aC true []),(bz (.a false))]),.b [] (al 3) 0 [(U 0)] (bh 0 0 0) (bh 0 0 0) [.a (E .In (bd (U 3) 1) (bx [(M [108,97,98,101,108]),(M [111,116,104,101,114])])) [ay (al 2) (bz (.a false))] [] _,.a (br false [(.h (U 2) _),(E .NotEq (bd (U 3) 1) (M [99,111,100,101]))]) [.c (bI .e (U 1) [(U 3)]) _] [] _,.a (aq 7 [(U 3)]) [ay (al 2) (bz (.a true))] [] _] _,aB [(U 1)]] ?h rfl;. intro y;intros;exact y
 case h=>dsimp;exact rfl
def Ae:bn:=⟨"reached_lines",1,["lines","found","is_dead","line"],0,tR⟩
noncomputable def HI:List aY:=by
 refine(?f:bv ["lines","found","place","line","here"] 27) ?y [ay (al 1) (.e true [] _),.b [] (cK [(al 2),(al 3)]) 3 [(U 0)] _ _ [.a (E .Eq (bd (U 3) 1) (M [108,97,98,101,108])) [ay (al 4) (aq 12 [(U 0),(U 2)]),.a (br true [(E .Lt (U 4) (cd .a [(U 0)])),(aq 5 [(aa (U 0) (U 4))])]) [ay (hq (U 1) (bd (U 3) 2)) (aa (bd (aa (U 0) (U 4)) 3) (T 1))] [] _] [] _] _,aB [(U 1)]] ?h rfl;. intro y;intros;exact y
 case h=>dsimp;exact rfl
def tJ:bn:=⟨"leads_of",1,["lines","found","place","line","here"],0,HI⟩
noncomputable def Hu:List aY:=by
 refine(?f:bv ["leads","goal","seen"] 28) ?y [ay (al 2) (.e true [] _),.e (br true [(E .In (U 1) (U 0)),(E .NotIn (U 1) (U 2))]) [ay (hq (U 2) (U 1)) (bz (.a true)),ay (al 1) (aa (U 0) (U 1))] _,aB [(U 1)]] ?h rfl;. intro y;intros;exact y
 case h=>dsimp;exact rfl
def tE:bn:=⟨"last_goal",2,["leads","goal","seen"],0,Hu⟩
noncomputable def G7:List aY:=by
 refine(?f:bv ["lines","found","line"] 29) ?y [ay (al 1) (.e true [] _),.b [] (al 2) 0 [(U 0)] (bh 0 0 0) (bh 0 0 0) [.a (E .Eq (bd (U 2) 1) (M [108,97,98,101,108])) [ay (hq (U 1) (bd (U 2) 2)) (bz (.a true))] [] _] _,aB [(U 1)]] ?h rfl;. intro y;intros;exact y
 case h=>dsimp;exact rfl
def tL:bn:=⟨"own_labels",1,["lines","found","line"],0,G7⟩
def HJ:List aY:=by
 refine(?f:bv ["lines","own","leads","found","near","name","line","goal"] 30) ?y [ay (cK [(al 2),(al 3)]) (bx [(aq 15 [(U 0)]),(aC true [])]),ay (al 4) (.e true [] _),.b [] (al 5) 0 [(U 2)] (bh 0 0 0) (bh 0 0 0) [.a (E .In (aa (U 2) (U 5)) (U 1)) [ay (hq (U 4) (U 5)) (aa (U 2) (U 5))] [] _] _,.b [4] (al 6) 0 [(U 0)] (bh 0 0 0) (bh 0 0 0) [.a (br false [(aq 5 [(U 6)]),(aq 6 [(U 6)])]) [ay (al 7) (aq 16 [(.b (aq 5 [(U 6)]) (U 2) (U 4) _),(aa (bd (U 6) 3) (dp (T 1)))]),.c (bI .e (U 3) [(.b (E .Eq (U 7) (aa (bd (U 6) 3) (dp (T 1)))) (U 6) (aq 4 [(bd (U 6) 2),(aL .Add (.a (bd (U 6) 3) [] [(dp (T 1))] _ _) (aC false [(U 7)]))]) _)]) _] [.c (bI .e (U 3) [(U 6)]) _] _] _,aB [(U 3)]] ?h rfl;. intro y;intros;exact y
 case h=>dsimp;exact rfl
def tK:bn:=⟨"led_lines",2,["lines","own","leads","found","near","name","line","goal"],0,HJ⟩
noncomputable def HP:List aY:=by
 refine(?f:bv ["lines","place","own"] 31) ?y [.a (br false [(.h (aq 6 [(aa (U 0) (U 1))]) _),(E .GtE (aL .Add (U 1) (T 1)) (cd .a [(U 0)])),(.h (aq 5 [(aa (U 0) (aL .Add (U 1) (T 1)))]) _)]) [aB [(bz (.b))]] [] _,.a (br false [(E .NotIn (aa (bd (aa (U 0) (aL .Add (U 1) (T 1))) 3) (T 1)) (U 2)),(E .NotIn (aa (bd (aa (U 0) (U 1)) 3) (T 2)) (aq 13 [(U 0),(aL .Add (U 1) (T 2))]))]) [aB [(bz (.b))]] [] _,aB [(aq 4 [(aa (dh 3) (bd (aa (U 0) (U 1)) 2)),(aL .Add (.a (bd (aa (U 0) (U 1)) 3) [] [(T 2)] _ _) (aC false [(aa (bd (aa (U 0) (aL .Add (U 1) (T 1))) 3) (T 1))]))])]] ?h rfl;. intro y;intros;exact y
 case h=>dsimp;exact rfl
def Ac:bn:=⟨"over_jump",3,["lines","place","own"],0,HP⟩
noncomputable def G':List aY:=by
 refine(?f:bv ["lines","own","found","place","line","turned"] 32) ?y [ay (cK [(al 2),(al 3)]) (bx [(aC true []),(T 0)]),.e (E .Lt (U 3) (cd .a [(U 0)])) [ay (al 4) (aa (U 0) (U 3)),ay (al 5) (aq 19 [(U 0),(U 3),(U 1)]),.a (E .IsNot (U 5) (bz (.b))) [.c (bI .e (U 2) [(U 5)]) _,ay (al 3) (aL .Add (U 3) (T 2))] [.a (br true [(br false [(aq 5 [(U 4)]),(aq 6 [(U 4)])]),(E .In (aa (bd (U 4) 3) (dp (T 1))) (aq 13 [(U 0),(aL .Add (U 3) (T 1))]))]) [ay (al 3) (aL .Add (U 3) (T 1))] [.c (bI .e (U 2) [(U 4)]) _,ay (al 3) (aL .Add (U 3) (T 1))] _] _] _,aB [(U 2)]] ?h rfl;. intro y;intros;exact y
 case h=>dsimp;exact rfl
def tM:bn:=⟨"short_lines",2,["lines","own","found","place","line","turned"],0,G'⟩
noncomputable def HN:List aY:=by
 refine(?f:bv ["text","figures"] 33) ?y [ay (al 1) (.b (E .Eq (.a (U 0) [] [(T 1)] _ _) (M [45])) (.a (U 0) [(T 1)] [] _ _) (U 0) _),.a (br false [(E .Eq (U 1) (M [])),(E .Gt (cd .a [(U 1)]) (T 10)),(E .NotEq (bI .n (U 1) [(M [48,49,50,51,52,53,54,55,56,57])]) (M []))]) [aB [(bz (.b))]] [] _,.a (br true [(E .Eq (aa (U 1) (T 0)) (M [48])),(E .NotEq (U 1) (M [48]))]) [aB [(bz (.b))]] [] _,aB [(.b (E .Eq (.a (U 0) [] [(T 1)] _ _) (M [45])) (dp (cd .b [(U 1)])) (cd .b [(U 1)]) _)]] ?h rfl;. intro y;intros;exact y
 case h=>dsimp;exact rfl
def Ab:bn:=⟨"number_in",1,["text","figures"],0,HN⟩
noncomputable def Bz:List aY:=by
 refine(?f:bv ["line","known","number","source"] 34) ?y [.a (br true [(E .Eq (bd (U 0) 2) (M [108,117,105])),(E .Eq (cd .a [(bd (U 0) 3)]) (T 2))]) [ay (al 2) (aq 21 [(aa (bd (U 0) 3) (T 1))]),aB [(.b (E .Is (U 2) (bz (.b))) (bz (.b)) (bx [(aq 1 [(aa (bd (U 0) 3) (T 0))]),(aL .Mod (aL .Mult (U 2) (T 4096)) (dh 2))]) _)]] [] _,.a (br true [(E .Eq (bd (U 0) 2) (M [97,100,100,105])),(E .Eq (cd .a [(bd (U 0) 3)]) (T 3))]) [ay (cK [(al 2),(al 3)]) (bx [(aq 21 [(aa (bd (U 0) 3) (T 2))]),(aq 1 [(aa (bd (U 0) 3) (T 1))])]),.a (br true [(E .IsNot (U 2) (bz (.b))),(E .In (U 3) (U 1))]) [aB [(bx [(aq 1 [(aa (bd (U 0) 3) (T 0))]),(aL .Mod (aL .Add (aa (U 1) (U 3)) (U 2)) (dh 2))])]] [] _] [] _,aB [(bz (.b))]] ?h rfl;. intro y;intros;exact y
 case h=>dsimp;exact rfl
def tN:bn:=⟨"told_number",2,["line","known","number","source"],1,Bz⟩
noncomputable def Bs:List aY:=by
 refine(?f:bv ["line","numbers"] 35) ?y [.a (br false [(E .NotIn (bd (U 0) 2) (bx [(M [97,100,100]),(M [97,100,100,105])])),(E .NotEq (cd .a [(bd (U 0) 3)]) (T 3))]) [aB [(bz (.a false))]] [] _,ay (al 1) (.d false (aq 1 [(U 0)]) "part" _ 0 [(bd (U 0) 3)] (bh 0 0 0) (bh 0 0 0) [] _ _),.a (br false [(E .Lt (cd .d [(aa (U 1) (T 0)),(aa (U 1) (T 1))]) (T 0)),(br true [(E .NotEq (aa (U 1) (T 0)) (aa (U 1) (T 1))),(E .NotEq (aa (U 1) (T 0)) (T 0))])]) [aB [(bz (.a false))]] [] _,.a (E .Eq (bd (U 0) 2) (M [97,100,100,105])) [aB [(br false [(E .Eq (aq 21 [(aa (bd (U 0) 3) (T 2))]) (T 0)),(br true [(E .Eq (aa (U 1) (T 0)) (T 0)),(E .IsNot (aq 21 [(aa (bd (U 0) 3) (T 2))]) (bz (.b)))])])]] [] _,aB [(br false [(E .Eq (aa (U 1) (T 2)) (T 0)),(br true [(E .Eq (aa (U 1) (T 0)) (T 0)),(E .Gt (aa (U 1) (T 2)) (T 0))])])]] ?h rfl;. intro y;intros;exact y
 case h=>dsimp;exact rfl
def zr:bn:=⟨"is_idle",1,["line","numbers"],0,Bs⟩
noncomputable def Br:List aY:=by
 refine(?f:bv ["line","ahead"] 36) ?y [.a (br false [(E .Is (U 1) (bz (.b))),(E .NotEq (bd (U 0) 2) (M [108,119])),(E .NotEq (bd (U 1) 2) (M [115,119])),(E .NotEq (cd .a [(bd (U 0) 3)]) (T 2)),(E .NotEq (cd .a [(bd (U 1) 3)]) (T 2))]) [aB [(bz (.b))]] [] _,.a (br false [(E .NotEq (aa (bd (U 0) 3) (T 1)) (aa (bd (U 1) 3) (T 1))),(E .Lt (cd .d [(aq 1 [(aa (bd (U 0) 3) (T 0))]),(aq 1 [(aa (bd (U 1) 3) (T 0))])]) (T 0))]) [aB [(bz (.b))]] [] _,aB [(aq 4 [(M [97,100,100,105]),(aC false [(aa (bd (U 0) 3) (T 0)),(aa (bd (U 1) 3) (T 0)),(M [48])])])]] ?h rfl;. intro y;intros;exact y
 case h=>dsimp;exact rfl
def tC:bn:=⟨"fetched_line",2,["line","ahead"],0,Br⟩
noncomputable def G9:List aY:=by
 refine(?f:bv ["line","number"] 37) ?y [.a (br false [(E .In (bd (U 0) 2) (dh 5)),(aq 6 [(U 0)]),(aq 5 [(U 0)])]) [aB [(dp (T 1))]] [] _,.a (br true [(br false [(E .In (bd (U 0) 2) (dh 4)),(E .In (bd (U 0) 2) (bx [(M [108,117,105]),(M [97,100,100,105])]))]),(E .NotEq (bd (U 0) 3) (aC false []))]) [ay (al 1) (aq 1 [(aa (bd (U 0) 3) (T 0))]),aB [(.b (E .GtE (U 1) (T 0)) (U 1) (dp (T 2)) _)]] [] _,aB [(dp (T 2))]] ?h rfl;. intro y;intros;exact y
 case h=>dsimp;exact rfl
def B':bn:=⟨"set_register",1,["line","number"],0,G9⟩
noncomputable def Bt:List aY:=by
 refine(?f:bv ["lines","place","known","first","later","number"] 38) ?y [.a (br false [(E .GtE (aL .Add (U 1) (T 1)) (cd .a [(U 0)])),(E .NotEq (bd (aa (U 0) (U 1)) 2) (M [108,117,105])),(E .NotEq (bd (aa (U 0) (aL .Add (U 1) (T 1))) 1) (M [99,111,100,101]))]) [aB [(bz (.a false))]] [] _,ay (al 3) (aq 22 [(aa (U 0) (U 1)),(U 2)]),ay (al 4) (aa (U 0) (aL .Add (U 1) (T 1))),.a (br false [(E .Is (U 3) (bz (.b))),(E .LtE (aa (U 3) (T 0)) (T 0)),(E .NotEq (bd (U 4) 2) (M [97,100,100,105])),(E .NotEq (cd .a [(bd (U 4) 3)]) (T 3))]) [aB [(bz (.a false))]] [] _,ay (al 5) (aq 21 [(aa (bd (U 4) 3) (T 2))]),.a (br false [(E .Is (U 5) (bz (.b))),(E .NotEq (aq 1 [(aa (bd (U 4) 3) (T 0))]) (aa (U 3) (T 0))),(E .NotEq (aq 1 [(aa (bd (U 4) 3) (T 1))]) (aa (U 3) (T 0)))]) [aB [(bz (.a false))]] [] _,aB [(E .Eq (bI .t (U 2) [(aa (U 3) (T 0)),(dp (T 1))]) (aL .Mod (aL .Add (aa (U 3) (T 1)) (U 5)) (dh 2)))]] ?h rfl;. intro y;intros;exact y
 case h=>dsimp;exact rfl
def tD:bn:=⟨"is_pair_known",3,["lines","place","known","first","later","number"],1,Bt⟩
noncomputable def Bq:List aY:=by
 refine(?f:bv ["line","known","number","told"] 39) ?y [ay (al 2) (aq 25 [(U 0)]),.a (E .Eq (U 2) (dp (T 2))) [aB [(.e true [⟨.c 0,.c 0,0,0,_,_⟩] _)]] [] _,ay (al 3) (aq 22 [(U 0),(U 1)]),.a (E .Gt (U 2) (T 0)) [.c (bI .y (U 1) [(U 2),(bz (.b))]) _,.a (E .IsNot (U 3) (bz (.b))) [ay (hq (U 1) (U 2)) (aa (U 3) (T 1))] [] _] [] _,aB [(U 1)]] ?h rfl;. intro y;intros;exact y
 case h=>dsimp;exact rfl
def tB:bn:=⟨"after",2,["line","known","number","told"],2,Bq⟩
noncomputable def nY:List aY:=by
 refine(?f:bv ["lines","found","known","ahead","place","line","moved","told"] 40) ?y [ay (cK [(al 1),(al 2),(al 3),(al 4)]) (bx [(aC true []),(.e true [⟨.c 0,.c 0,0,0,_,_⟩] _),(bz (.b)),(T 0)]),.e (E .Lt (U 4) (cd .a [(U 0)])) [ay (al 5) (aa (U 0) (U 4)),ay (al 4) (aL .Add (U 4) (T 1)),.a (E .NotEq (bd (U 5) 1) (M [99,111,100,101])) [.a (E .In (bd (U 5) 1) (bx [(M [108,97,98,101,108]),(M [111,116,104,101,114])])) [ay (cK [(al 2),(al 3)]) (bx [(.e true [⟨.c 0,.c 0,0,0,_,_⟩] _),(bz (.b))])] [] _,.c (bI .e (U 1) [(U 5)]) _,.d _] [] _,.a (aq 26 [(U 0),(aL .Sub (U 4) (T 1)),(U 2)]) [ay (al 4) (aL .Add (U 4) (T 1)),.d _] [] _,ay (al 6) (aq 24 [(U 5),(U 3)]),ay (al 5) (.b (E .Is (U 6) (bz (.b))) (U 5) (U 6) _),ay (al 7) (aq 22 [(U 5),(U 2)]),.a (br false [(aq 23 [(U 5)]),(br true [(E .IsNot (U 7) (bz (.b))),(E .Gt (aa (U 7) (T 0)) (T 0)),(E .Eq (bI .t (U 2) [(aa (U 7) (T 0)),(dp (T 1))]) (aa (U 7) (T 1)))])]) [.d _] [] _,ay (cK [(al 2),(al 3)]) (bx [(aq 27 [(U 5),(U 2)]),(U 5)]),.c (bI .e (U 1) [(U 5)]) _] _,aB [(U 1)]] ?h rfl;. intro y;intros;exact y
 case h=>dsimp;exact rfl
def pg:bn:=⟨"needed_lines",1,["lines","found","known","ahead","place","line","moved","told"],0,nY⟩
noncomputable def yP:List aY:=by
 refine(?f:bv ["lines"] 41) ?y [aB [(bI .m (M [10]) [(.d false (bd (U 0) 0) "line" _ 0 [(U 0)] (bh 0 0 0) (bh 0 0 0) [] _ _)])]] ?h rfl;. intro y;intros;exact y
 case h=>dsimp;exact rfl
def BE:bn:=⟨"texts_of",1,["lines"],0,yP⟩
noncomputable def hA:List aY:=by
 refine(?f:bv ["text","lines","before","own"] 42) ?y [ay (al 1) (.d false (aq 3 [(U 0)]) "row" _ 0 [(bI .l (U 0) [(M [10])])] (bh 0 0 0) (bh 0 0 0) [] _ _),.a (.h (aq 11 [(U 1)]) _) [aB [(U 0)]] [] _,ay (cK [(al 2),(al 3)]) (bx [(bz (.b)),(aq 17 [(U 1)])]),.e (E .NotEq (U 2) (U 0)) [ay (al 2) (U 0),ay (al 1) (aq 28 [(aq 20 [(aq 18 [(aq 14 [(U 1)]),(U 3)]),(U 3)])]),ay (al 0) (aq 29 [(U 1)])] _,aB [(U 0)]] ?h rfl;. intro y;intros;exact y
 case h=>dsimp;exact rfl
def Ad:bn:=⟨"peephole",1,["text","lines","before","own"],0,hA⟩
noncomputable def Hx:List aY:=by
 refine(?f:bv [] 45) ?y [aB [(aC false [(M [116,48]),(M [116,49]),(M [97,48]),(M [115,49]),(M [120,53]),(M [122,101,114,111])])]] ?h rfl;. intro y;intros;exact y
 case h=>dsimp;exact rfl
def JH:bn:=⟨"_law_PLACES",0,[],0,Hx⟩
noncomputable def Hw:List aY:=by
 refine(?f:bv [] 46) ?y [aB [(aC false [(M [97,100,100]),(M [115,117,98]),(M [120,111,114]),(M [115,108,116,117]),(M [109,117,108])])]] ?h rfl;. intro y;intros;exact y
 case h=>dsimp;exact rfl
def JG:bn:=⟨"_law_OPS",0,[],0,Hw⟩
noncomputable def Hv:List aY:=by
 refine(?f:bv [] 47) ?y [aB [(aC false [(M [98,101,113]),(M [98,110,101]),(M [98,108,116]),(M [98,103,101]),(M [98,108,116,117]),(M [98,103,101,117])])]] ?h rfl;. intro y;intros;exact y
 case h=>dsimp;exact rfl
def JF:bn:=⟨"_law_ASKS",0,[],0,Hv⟩
noncomputable def Hy:List aY:=by
 refine(?f:bv [] 48) ?y [aB [(aC false [(M [97,100,100]),(M [115,117,98]),(M [120,111,114]),(M [115,108,116,117]),(M [109,117,108]),(M [97,100,100,105]),(M [108,117,105]),(M [108,119]),(M [108,98]),(M [108,98,117])])]] ?h rfl;. intro y;intros;exact y
 case h=>dsimp;exact rfl
def JI:bn:=⟨"_law_SETTING",0,[],0,Hy⟩
noncomputable def Hz:List aY:=by
 refine(?f:bv [] 49) ?y [aB [(.e false [⟨.d [115,119],.c 4,0,0,_,_⟩,⟨.d [115,104],.c 2,0,0,_,_⟩,⟨.d [115,98],.c 1,0,0,_,_⟩] _)]] ?h rfl;. intro y;intros;exact y
 case h=>dsimp;exact rfl
def JJ:bn:=⟨"_law_STORES",0,[],0,Hz⟩
noncomputable def HC:List aY:=by
 refine(?f:bv ["well","size","numbers","place"] 51) ?y [ay (cK [(al 2),(al 3)]) (U 0),.a (E .Eq (U 3) (cd .a [(U 2)])) [.c (bI .e (U 2) [(aL .Mod (aL .Add (aL .Add (aL .Mult (aa (U 2) (dp (T 1))) (T 5)) (aa (U 2) (aL .FloorDiv (U 3) (T 2)))) (U 3)) (T 251))]) _] [] _,ay (hq (U 0) (T 1)) (aL .Add (U 3) (T 1)),aB [(aL .Mod (aa (U 2) (U 3)) (U 1))]] ?h rfl;. intro y;intros;exact y
 case h=>dsimp;exact rfl
def tG:bn:=⟨"_law_draw",2,["well","size","numbers","place"],1,HC⟩
noncomputable def HH:List aY:=by
 refine(?f:bv ["well"] 52) ?y [aB [(aa (aq 31 []) (aq 36 [(U 0),(T 6)]))]] ?h rfl;. intro y;intros;exact y
 case h=>dsimp;exact rfl
def B3:bn:=⟨"_law_place",1,["well"],1,HH⟩
noncomputable def Bv:List aY:=by
 refine(?f:bv ["well","many"] 53) ?y [aB [(aL .Add (M [46,76]) (cd .c [(aL .Add (T 1) (aq 36 [(U 0),(U 1)]))]))]] ?h rfl;. intro y;intros;exact y
 case h=>dsimp;exact rfl
def zW:bn:=⟨"_law_label",2,["well","many"],1,Bv⟩
noncomputable def HG:List aY:=by
 refine(?f:bv ["well","spot","way"] 54) ?y [ay (cK [(al 1),(al 2)]) (bx [(aq 37 [(U 0)]),(aq 36 [(U 0),(T 4)])]),.a (E .Eq (U 2) (T 0)) [aB [(aC false [(aC false [(M [97,100,100,105]),(U 1),(M [122,101,114,111]),(aa (aC false [(M [53]),(M [48]),(M [45,55])]) (aq 36 [(U 0),(T 3)]))])])]] [] _,.a (E .Eq (U 2) (T 1)) [aB [(aC false [(aC false [(M [108,117,105]),(U 1),(aa (aC false [(M [51]),(M [53,50,52,50,56,56])]) (aq 36 [(U 0),(T 2)]))])])]] [] _,aB [(aC false [(aC false [(M [108,117,105]),(U 1),(M [51])]),(aC false [(M [97,100,100,105]),(U 1),(U 1),(aa (aC false [(M [53]),(M [45,55])]) (aL .Sub (U 2) (T 2)))])])]] ?h rfl;. intro y;intros;exact y
 case h=>dsimp;exact rfl
def tH:bn:=⟨"_law_pair",1,["well","spot","way"],1,HG⟩
noncomputable def gE:List aY:=by
 refine(?f:bv ["well","base","spot","other","way","verbs","far","between","rows"] 55) ?y [ay (cK [(al 1),(al 2),(al 3)]) (bx [(aa (aC false [(M [115,112]),(M [115,49])]) (aq 36 [(U 0),(T 2)])),(aq 37 [(U 0)]),(aq 37 [(U 0)])]),ay (cK [(al 4),(al 5)]) (bx [(aq 36 [(U 0),(T 5)]),(aa (aC false [(bx [(M [115,119]),(M [108,119])]),(bx [(M [115,119]),(M [108,119])]),(bx [(M [115,98]),(M [108,119])]),(bx [(M [115,119]),(M [108,98])])]) (aq 36 [(U 0),(T 4)]))]),ay (al 6) (aL .Add (aL .Add (aa (aC false [(M [48,40]),(M [52,40])]) (aq 36 [(U 0),(T 2)])) (U 1)) (M [41])),ay (al 7) (aa (aC false [(aC false []),(aC false [(M [98,108,97,110,107])]),(aC false [(M [97,100,100,105]),(U 2),(U 2),(M [48])]),(aC false [(M [115,98]),(M [97,48]),(M [49,40,115,112,41])]),(aC false [(M [46,108,111,99,32,52])])]) (U 4)),ay (al 8) (aC true [(aC false [(aa (U 5) (T 0)),(U 2),(.b (E .Gt (aq 36 [(U 0),(T 3)]) (T 0)) (aL .Add (aL .Add (M [48,40]) (U 1)) (M [41])) (U 6) _)])]),.a (E .NotEq (U 7) (aC false [])) [.c (bI .e (U 8) [(U 7)]) _] [] _,aB [(aL .Add (U 8) (aC false [(aC false [(aa (U 5) (T 1)),(U 3),(aL .Add (aL .Add (M [48,40]) (U 1)) (M [41]))])]))]] ?h rfl;. intro y;intros;exact y
 case h=>dsimp;exact rfl
def B6:bn:=⟨"_law_through",1,["well","base","spot","other","way","verbs","far","between","rows"],1,gE⟩
noncomputable def hh:List aY:=by
 refine(?f:bv ["well","many","fresh","ask","near","first","second","goal","way","rows"] 56) ?y [ay (cK [(al 3),(al 4)]) (bx [(aa (aq 33 []) (aq 36 [(U 0),(T 6)])),(aL .Add (M [46,76,111,118,101,114]) (cd .c [(U 2)]))]),ay (cK [(al 5),(al 6),(al 7)]) (bx [(aq 37 [(U 0)]),(aq 37 [(U 0)]),(aq 38 [(U 0),(U 1)])]),ay (al 8) (aq 36 [(U 0),(T 4)]),ay (al 9) (aC true [(aC false [(U 3),(U 5),(U 6),(.b (E .NotEq (U 8) (T 1)) (U 4) (U 7) _)]),(aC false [(M [106,97,108]),(M [122,101,114,111]),(aq 38 [(U 0),(U 1)])])]),.a (E .Eq (U 8) (T 2)) [.c (bI .e (U 9) [(aC false [(M [97,100,100,105]),(M [97,48]),(M [97,48]),(M [49])])]) _] [] _,.a (E .Eq (U 8) (T 3)) [.c (bI .u (U 9) [(T 1),(aC false [(M [46,108,111,99,32,57])])]) _] [] _,aB [(aL .Add (U 9) (aC false [(aC false [(aL .Add (U 4) (M [58]))])]))]] ?h rfl;. intro y;intros;exact y
 case h=>dsimp;exact rfl
def nP:bn:=⟨"_law_over",3,["well","many","fresh","ask","near","first","second","goal","way","rows"],1,hh⟩
noncomputable def aW:List aY:=by
 refine(?f:bv ["well","many","fresh","kind","rows","spot"] 57) ?y [ay (al 3) (aq 36 [(U 0),(T 12)]),.a (E .Lt (U 3) (T 3)) [ay (al 4) (aq 39 [(U 0)]),aB [(.b (E .Eq (U 3) (T 2)) (aL .Add (aL .Add (U 4) (aC false [(aC false [(M [115,119]),(M [116,48]),(M [56,40,115,112,41])])])) (U 4)) (U 4) _)]] [] _,.a (E .Eq (U 3) (T 3)) [aB [(aC false [(aC false [(M [97,100,100,105]),(aq 37 [(U 0)]),(aq 37 [(U 0)]),(aa (aC false [(M [48]),(M [48]),(M [49]),(M [53])]) (aq 36 [(U 0),(T 4)]))])])]] [] _,.a (E .Eq (U 3) (T 4)) [aB [(aC false [(aC false [(aa (aq 32 []) (aq 36 [(U 0),(T 5)])),(aq 37 [(U 0)]),(aq 37 [(U 0)]),(aq 37 [(U 0)])])])]] [] _,.a (E .Eq (U 3) (T 5)) [aB [(aC false [(aC false [(aa (aC false [(M [115,119]),(M [115,98]),(M [115,104])]) (aq 36 [(U 0),(T 3)])),(aq 37 [(U 0)]),(aa (aC false [(M [48,40,115,112,41]),(M [52,40,115,49,41])]) (aq 36 [(U 0),(T 2)]))])])]] [] _,.a (E .Eq (U 3) (T 6)) [aB [(aC false [(aC false [(aa (aC false [(M [108,119]),(M [108,98]),(M [108,98,117])]) (aq 36 [(U 0),(T 3)])),(aq 37 [(U 0)]),(aa (aC false [(M [48,40,115,112,41]),(M [52,40,115,49,41])]) (aq 36 [(U 0),(T 2)]))])])]] [] _,.a (E .Eq (U 3) (T 7)) [aB [(aq 40 [(U 0)])]] [] _,.a (E .Eq (U 3) (T 8)) [aB [(aC false [(aC false [(aa (aq 33 []) (aq 36 [(U 0),(T 6)])),(aq 37 [(U 0)]),(aq 37 [(U 0)]),(aq 38 [(U 0),(U 1)])])])]] [] _,.a (E .Eq (U 3) (T 9)) [aB [(aq 41 [(U 0),(U 1),(U 2)])]] [] _,.a (E .Eq (U 3) (T 10)) [aB [(aC false [(aC false [(M [106,97,108]),(M [114,97]),(M [102])])])]] [] _,ay (al 5) (aq 37 [(U 0)]),aB [(aa (aC false [(aC false [(aC false [(M [108,105]),(U 5),(M [53])])]),(aC false [(aC false [(M [109,118]),(U 5),(M [116,49])])]),(aC false [(aC false [(M [97,100,100,105]),(U 5),(U 5),(M [48])]),(aC false [(M [97,100,100,105]),(U 5),(U 5),(M [49,32,35,32,109,111,114,101])])]),(aC false [(aC false [(M [46,103,108,111,98,108,32,107,101,112,116])])]),(aC false [(aC false [(M [35,32,97,32,114,101,109,97,114,107])])]),(aC false [(aC false [(M [97,100,100,105]),(U 5),(M [122,101,114,111]),(M [53])]),(aC false [(M [46,97,108,105,103,110,32,50])])])]) (aq 36 [(U 0),(T 6)]))]] ?h rfl;. intro y;intros;exact y
 case h=>dsimp;exact rfl
def B2:bn:=⟨"_law_item",3,["well","many","fresh","kind","rows","spot"],1,aW⟩
noncomputable def bJ:List aY:=by
 refine(?f:bv ["well","many","at","kind","label","after_it"] 58) ?y [ay (cK [(al 3),(al 4)]) (bx [(aq 36 [(U 0),(T 9)]),(aq 38 [(U 0),(U 1)])]),ay (al 5) (.b (E .Eq (aL .Mod (U 3) (T 2)) (T 1)) (aC false [(aC false [(M [97,100,100,105]),(M [97,48]),(M [97,48]),(M [57])])]) (aC false []) _),.a (E .Lt (U 3) (T 2)) [aB [(aC false [])]] [] _,.a (E .Lt (U 3) (T 4)) [aB [(aL .Add (aC false [(aC false [(M [106,97,108]),(M [122,101,114,111]),(aL .Add (M [46,76]) (cd .c [(aL .Add (U 2) (T 1))]))])]) (U 5))]] [] _,.a (E .Lt (U 3) (T 6)) [aB [(aL .Add (aC false [(aC false [(M [106,97,108]),(M [122,101,114,111]),(U 4)])]) (U 5))]] [] _,.a (E .Eq (U 3) (T 6)) [aB [(aC false [(aC false [(M [106,97,108,114]),(M [122,101,114,111]),(M [48,40,114,97,41])]),(aC false [(M [98,108,97,110,107])]),(aC false [(M [115,117,98]),(M [97,48]),(M [97,48]),(M [116,48])])])]] [] _,.a (E .Eq (U 3) (T 7)) [aB [(aL .Add (aC false [(aC false [(M [106,97,108,114]),(M [122,101,114,111]),(M [48,40,114,97,41])])]) (U 5))]] [] _,aB [(aC false [(aC false [(M [108,117,105]),(M [116,49]),(aL .Add (aL .Add (M [37,104,105,40]) (U 4)) (M [41]))]),(aC false [(M [97,100,100,105]),(M [116,49]),(M [116,49]),(aL .Add (aL .Add (M [37,108,111,40]) (U 4)) (M [41]))]),(aC false [(M [106,97,108,114]),(M [122,101,114,111]),(M [48,40,116,49,41])])])]] ?h rfl;. intro y;intros;exact y
 case h=>dsimp;exact rfl
def BY:bn:=⟨"_law_end",3,["well","many","at","kind","label","after_it"],1,bJ⟩
noncomputable def ee:List aY:=by
 refine(?f:bv ["well","style","many","rows","at","turn","is_far","head","mark","found","row"] 59) ?y [ay (cK [(al 1),(al 2),(al 3)]) (bx [(aq 36 [(U 0),(T 3)]),(aL .Add (T 3) (aq 36 [(U 0),(T 3)])),(aC true [(aC false [(M [46,116,101,120,116])]),(aC false [(M [46,103,108,111,98,108,32,104])]),(aC false [(M [104,58])])])]),.b [] (al 4) 1 [(U 2)] _ _ [.c (bI .e (U 3) [(aC false [(aL .Add (aL .Add (M [46,76]) (cd .c [(U 4)])) (M [58]))])]) _,.b [] (al 5) 1 [(aa (aC false [(T 2),(T 0),(T 1),(T 3)]) (aq 36 [(U 0),(T 4)]))] _ _ [.c (bI .q (U 3) [(aq 42 [(U 0),(U 2),(cd .a [(U 3)])])]) _] _,.c (bI .q (U 3) [(aq 43 [(U 0),(U 2),(U 4)])]) _] _,.c (bI .q (U 3) [(aC false [(aC false [(aL .Add (aL .Add (M [46,76]) (cd .c [(U 2)])) (M [58]))]),(aC false [(M [106,97,108,114]),(M [122,101,114,111]),(M [48,40,114,97,41])]),(aC false [(M [46,114,111,100,97,116,97])]),(aC false [(M [116,97,98,108,101,58])]),(aC false [(M [46,119,111,114,100,32,46,76,49])]),(aC false [(M [98,108,97,110,107])])])]) _,ay (al 6) (E .Eq (aq 36 [(U 0),(T 8)]) (T 7)),.a (U 6) [.c (bI .u (U 3) [(T 4),(aa (aC false [(aC false [(M [106,97,108]),(M [122,101,114,111]),(M [56])]),(aC false [(M [98,101,113]),(M [116,48]),(M [116,49]),(M [45,52])]),(aC false [(M [97,117,105,112,99]),(M [116,48]),(M [48])])]) (U 1))]) _] [] _,ay (cK [(al 7),(al 8)]) (aa (aC false [(bx [(M [9]),(M [44,32])]),(bx [(M [32,32,32,32]),(M [44])]),(bx [(M [9]),(M [32,44,32])])]) (U 1)),ay (al 9) (aC true []),.b [3] (al 10) 0 [(U 3)] (bh 0 0 0) (bh 0 0 0) [.a (E .Gt (cd .a [(U 10)]) (T 1)) [.c (bI .e (U 9) [(aL .Add (aL .Add (aL .Add (U 7) (aa (U 10) (T 0))) (M [32])) (bI .m (U 8) [(.a (U 10) [(T 1)] [] _ _)]))]) _] [.a (E .Eq (aa (U 10) (T 0)) (M [98,108,97,110,107])) [.c (bI .e (U 9) [(M [])]) _] [.c (bI .e (U 9) [(.b (E .Eq (aa (aa (U 10) (T 0)) (dp (T 1))) (M [58])) (aa (U 10) (T 0)) (aL .Add (U 7) (aa (U 10) (T 0))) _)]) _] _] _] _,aB [(bx [(U 9),(U 6)])]] ?h rfl;. intro y;intros;exact y
 case h=>dsimp;exact rfl
def B5:bn:=⟨"_law_text",1,["well","style","many","rows","at","turn","is_far","head","mark","found","row"],1,ee⟩
noncomputable def HF:List aY:=by
 refine(?f:bv ["text","value","high"] 60) ?y [.a (E .NotEq (.a (U 0) [] [(T 1)] _ _) (M [37])) [aB [(cd .b [(U 0)])]] [] _,ay (al 1) (aL .Add (T 7000) (aL .Mult (T 3000) (cd .b [(.a (U 0) [(T 6)] [(dp (T 1))] _ _)]))),ay (al 2) (aL .FloorDiv (aL .Add (U 1) (T 2048)) (T 4096)),aB [(.b (E .Eq (.a (U 0) [] [(T 3)] _ _) (M [37,104,105])) (U 2) (aL .Sub (U 1) (aL .Mult (T 4096) (U 2))) _)]] ?h rfl;. intro y;intros;exact y
 case h=>dsimp;exact rfl
def JL:bn:=⟨"_law_number",1,["text","value","high"],0,HF⟩
noncomputable def iR:List aY:=by
 refine(?f:bv ["rows","code","spots","row","parts"] 61) ?y [ay (cK [(al 1),(al 2)]) (bx [(aC true []),(.e true [] _)]),.b [] (al 3) 0 [(U 0)] (bh 0 0 0) (bh 0 0 0) [ay (al 4) (bI .l (.l (aa (bI .l (U 3) [(M [35])]) (T 0)) [44] [32] 0 0 _ _ _ _) []),.a (E .Eq (U 4) (aC false [])) [.d _] [] _,.a (E .Eq (aa (aa (U 4) (T 0)) (dp (T 1))) (M [58])) [ay (hq (U 2) (.a (aa (U 4) (T 0)) [] [(dp (T 1))] _ _)) (cd .a [(U 1)])] [.a (E .NotEq (aa (aa (U 4) (T 0)) (T 0)) (M [46])) [.c (bI .e (U 1) [(U 4)]) _] [] _] _] _,aB [(bx [(U 1),(U 2)])]] ?h rfl;. intro y;intros;exact y
 case h=>dsimp;exact rfl
def zY:bn:=⟨"_law_read",1,["rows","code","spots","row","parts"],0,iR⟩
noncomputable def Bw:List aY:=by
 refine(?f:bv ["value"] 62) ?y [aB [(.b (E .GtE (U 0) (T 2147483648)) (aL .Sub (U 0) (dh 10)) (U 0) _)]] ?h rfl;. intro y;intros;exact y
 case h=>dsimp;exact rfl
def zZ:bn:=⟨"_law_signed",1,["value"],0,Bw⟩
noncomputable def HB:List aY:=by
 refine(?f:bv ["op","one","other"] 63) ?y [.a (E .Eq (U 0) (M [115,108,116,117])) [aB [(cd .b [(E .Lt (U 1) (U 2))])]] [] _,.a (E .Eq (U 0) (M [120,111,114])) [aB [(aL .BitXor (U 1) (U 2))]] [] _,aB [(.b (E .Eq (U 0) (M [97,100,100])) (aL .Add (U 1) (U 2)) (.b (E .Eq (U 0) (M [115,117,98])) (aL .Sub (U 1) (U 2)) (aL .Mult (U 1) (U 2)) _) _)]] ?h rfl;. intro y;intros;exact y
 case h=>dsimp;exact rfl
def BX:bn:=⟨"_law_did",3,["op","one","other"],0,HB⟩
noncomputable def HD:List aY:=by
 refine(?f:bv ["ask","one","other"] 64) ?y [.a (E .In (U 0) (bx [(M [98,101,113]),(M [98,110,101])])) [aB [(E .Eq (E .Eq (U 1) (U 2)) (E .Eq (U 0) (M [98,101,113])))]] [] _,.a (E .In (U 0) (bx [(M [98,108,116]),(M [98,103,101])])) [ay (cK [(al 1),(al 2)]) (bx [(aq 47 [(U 1)]),(aq 47 [(U 2)])])] [] _,aB [(E .Eq (E .Lt (U 1) (U 2)) (E .In (U 0) (bx [(M [98,108,116]),(M [98,108,116,117])])))]] ?h rfl;. intro y;intros;exact y
 case h=>dsimp;exact rfl
def BZ:bn:=⟨"_law_goes",3,["ask","one","other"],0,HD⟩
noncomputable def Bx:List aY:=by
 refine(?f:bv ["text","bank","far","behind"] 65) ?y [ay (cK [(al 2),(al 3)]) (bI .l (.a (U 0) [] [(dp (T 1))] _ _) [(M [40])]),aB [(aL .Mod (aL .Add (aa (U 1) (aa (dh 9) (U 3))) (cd .b [(U 2)])) (dh 10))]] ?h rfl;. intro y;intros;exact y
 case h=>dsimp;exact rfl
def z':bn:=⟨"_law_spot",2,["text","bank","far","behind"],1,Bx⟩
noncomputable def eN:List aY:=by
 refine(?f:bv ["parts","bank","memory","events","verb","width","value","at","each"] 67) ?y [ay (al 4) (aa (U 0) (T 0)),.a (E .In (U 4) (aq 35 [])) [ay (cK [(al 5),(al 6),(al 7)]) (bx [(aa (aq 35 []) (U 4)),(aa (U 1) (aa (dh 9) (aa (U 0) (T 1)))),(aq 50 [(aa (U 0) (T 2)),(U 1)])]),.b [] (al 8) 1 [(U 5)] _ _ [ay (hq (U 2) (aL .Mod (aL .Add (U 7) (U 8)) (dh 10))) (aL .Mod (aL .FloorDiv (U 6) (aL .Pow (T 256) (U 8))) (T 256))] _,.c (bI .e (U 3) [(bx [(U 7),(U 5),(aL .Mod (U 6) (aL .Pow (T 256) (U 5)))])]) _,aB []] [] _,.a (E .In (U 4) (bx [(M [108,119]),(M [108,98]),(M [108,98,117])])) [ay (al 7) (aq 50 [(aa (U 0) (T 2)),(U 1)]),ay (al 6) (aq 51 [(U 2),(U 7),(.b (E .Eq (U 4) (M [108,119])) (T 4) (T 1) _)]),.a (br true [(E .Eq (U 4) (M [108,98])),(E .Gt (U 6) (T 127))]) [ay (al 6) (aL .Sub (U 6) (T 256))] [] _] [.a (E .Eq (U 4) (M [108,117,105])) [ay (al 6) (aL .Mult (aq 45 [(aa (U 0) (T 2))]) (T 4096))] [.a (E .Eq (U 4) (M [108,105])) [ay (al 6) (cd .b [(aa (U 0) (T 2))])] [.a (E .Eq (U 4) (M [109,118])) [ay (al 6) (aa (U 1) (aa (dh 9) (aa (U 0) (T 2))))] [.a (E .Eq (U 4) (M [97,100,100,105])) [ay (al 6) (aL .Add (aa (U 1) (aa (dh 9) (aa (U 0) (T 2)))) (aq 45 [(aa (U 0) (T 3))]))] [ay (al 6) (aq 48 [(U 4),(aa (U 1) (aa (dh 9) (aa (U 0) (T 2)))),(aa (U 1) (aa (dh 9) (aa (U 0) (T 3))))])] _] _] _] _] _,ay (hq (U 1) (aa (dh 9) (aa (U 0) (T 1)))) (aL .Mod (U 6) (dh 10)),ay (hq (U 1) (T 0)) (T 0)] ?h rfl;. intro y;intros;exact y
 case h=>dsimp;exact rfl
def qP:bn:=⟨"_law_plain",4,["parts","bank","memory","events","verb","width","value","at","each"],1,eN⟩
def gD:List aY:=by
 refine(?f:bv ["rows","code","spots","at","bank","memory","events","turn","parts","goal","name"] 68) ?y [ay (cK [(al 1),(al 2)]) (aq 46 [(U 0)]),ay (cK [(al 4),(al 5),(al 6)]) (bx [(.d true (aL .Mult (aL .Mult (T 1000003) (U 0)) (U 0)) "at" _ 1 [(T 32)] _ _ [] _ _),(.e true [] _),(aC true [])]),ay (al 3) (aa (U 2) (M [104])),.b [] (al 7) 1 [(T 100)] _ _ [.a (E .GtE (U 3) (cd .a [(U 1)])) [aB [(bx [(U 6),(bx [(M [111,118,101,114]),(U 4)])])]] [] _,ay (cK [(al 8),(al 3)]) (bx [(aa (U 1) (U 3)),(aL .Add (U 3) (T 1))]),.a (E .In (aa (U 8) (T 0)) (aq 33 [])) [.a (aq 49 [(aa (U 8) (T 0)),(aa (U 4) (aa (dh 9) (aa (U 8) (T 1)))),(aa (U 4) (aa (dh 9) (aa (U 8) (T 2))))]) [ay (al 3) (aa (U 2) (aa (U 8) (T 3)))] [] _] [.a (br true [(E .Eq (aa (U 8) (T 0)) (M [106,97,108])),(E .Eq (aa (U 8) (T 1)) (M [114,97]))]) [.c (bI .e (U 6) [(bx [(M [102]),(aa (U 4) (T 10)),(aa (U 4) (T 9))])]) _,ay (cK [(hq (U 4) (T 1)),(hq (U 4) (T 5)),(hq (U 4) (T 6)),(hq (U 4) (T 10))]) (bx [(T 77),(T 5),(T 12293),(aL .Mult (cd .a [(U 6)]) (T 40503))])] [.a (E .Eq (aa (U 8) (T 0)) (M [106,97,108])) [ay (al 3) (aa (U 2) (aa (U 8) (T 2)))] [.a (E .Eq (aa (U 8) (T 0)) (M [106,97,108,114])) [ay (al 9) (aa (U 4) (aa (dh 9) (.a (aa (U 8) (T 2)) [(T 2)] [(dp (T 1))] _ _))),ay (al 10) (aL .Add (M [46,76]) (cd .c [(aL .FloorDiv (aL .Sub (U 9) (T 7000)) (T 3000))])),.a (br false [(E .Eq (aa (U 8) (T 2)) (M [48,40,114,97,41])),(E .NotEq (aL .Mod (U 9) (T 3000)) (T 1000)),(E .NotIn (U 10) (U 2))]) [aB [(bx [(U 6),(bx [(aa (U 8) (T 2)),(U 4)])])]] [] _,ay (al 3) (aa (U 2) (U 10))] [.c (aq 52 [(U 8),(U 4),(U 5),(U 6)]) _] _] _] _] _] _,aB [(bx [(U 6),(bz (.b))])]] ?h rfl;. intro y;intros;exact y
 case h=>dsimp;exact rfl
def tI:bn:=⟨"_law_run",1,["rows","code","spots","at","bank","memory","events","turn","parts","goal","name"],0,gD⟩
noncomputable def yN:List aY:=by
 refine(?f:bv ["row","plain"] 69) ?y [ay (al 1) (bI .n (U 0) []),.a (br false [(E .Eq (U 1) (M [])),(E .Eq (.a (U 1) [] [(T 5)] _ _) (M [46,108,111,99,32]))]) [aB [(M [115,107,105,112])]] [] _,.a (E .In (M [35]) (U 1)) [aB [(M [111,116,104,101,114])]] [] _,aB [(.b (E .Eq (aa (U 1) (dp (T 1))) (M [58])) (M [108,97,98,101,108]) (.b (E .Eq (aa (U 1) (T 0)) (M [46])) (M [111,116,104,101,114]) (M [99,111,100,101]) _) _)]] ?h rfl;. intro y;intros;exact y
 case h=>dsimp;exact rfl
def qO:bn:=⟨"_law_kind",1,["row","plain"],0,yN⟩
noncomputable def lr:List aY:=by
 refine(?f:bv ["kinds","parts","place","names"] 70) ?y [ay (al 3) (aC true []),.e (br true [(E .Lt (U 2) (cd .a [(U 0)])),(E .In (aa (U 0) (U 2)) (bx [(M [108,97,98,101,108]),(M [115,107,105,112])]))]) [.a (E .Eq (aa (U 0) (U 2)) (M [108,97,98,101,108])) [.c (bI .e (U 3) [(.a (aa (aa (U 1) (U 2)) (T 0)) [] [(dp (T 1))] _ _)]) _] [] _,ay (al 2) (aL .Add (U 2) (T 1))] _,aB [(bx [(U 3),(U 2)])]] ?h rfl;. intro y;intros;exact y
 case h=>dsimp;exact rfl
def zu:bn:=⟨"_law_behind",3,["kinds","parts","place","names"],0,lr⟩
noncomputable def HE:List aY:=by
 refine(?f:bv ["word_now"] 71) ?y [aB [(br true [(E .Eq (aa (U 0) (T 0)) (M [106,97,108])),(E .In (aa (U 0) (T 1)) (bx [(M [122,101,114,111]),(M [120,48])]))])]] ?h rfl;. intro y;intros;exact y
 case h=>dsimp;exact rfl
def JK:bn:=⟨"_law_is_jump",1,["word_now"],0,HE⟩
noncomputable def nX:List aY:=by
 refine(?f:bv ["kinds","parts","place","spot","at","verb"] 72) ?y [.b [] (al 4) 2 [(aL .Sub (U 2) (T 1)),(dp (T 1)),(dp (T 1))] _ _ [ay (al 5) (.b (E .Eq (aa (U 0) (U 4)) (M [99,111,100,101])) (aa (aa (U 1) (U 4)) (T 0)) (M []) _),.a (br false [(E .Eq (aa (U 0) (U 4)) (M [115,107,105,112])),(E .In (U 5) (aq 35 [])),(E .In (U 5) (aq 33 []))]) [.d _] [] _,.a (E .NotIn (U 5) (aq 34 [])) [aB [(dp (T 1))]] [] _,.a (E .Eq (aa (dh 9) (aa (aa (U 1) (U 4)) (T 1))) (U 3)) [aB [(U 4)]] [] _] _,aB [(dp (T 1))]] ?h rfl;. intro y;intros;exact y
 case h=>dsimp;exact rfl
def B4:bn:=⟨"_law_setter",4,["kinds","parts","place","spot","at","verb"],0,nX⟩
noncomputable def HA:List aY:=by
 refine(?f:bv ["parts","at"] 73) ?y [.a (br false [(E .Lt (U 1) (T 0)),(E .NotIn (aa (aa (U 0) (U 1)) (T 0)) (bx [(M [97,100,100,105]),(M [108,117,105])])),(br true [(E .Eq (aa (aa (U 0) (U 1)) (T 0)) (M [97,100,100,105])),(E .NotEq (aa (dh 9) (aa (aa (U 0) (U 1)) (T 2))) (T 0))])]) [aB [(bz (.b))]] [] _,aB [(.b (E .In (M [37]) (aa (aa (U 0) (U 1)) (dp (T 1)))) (bz (.b)) (bx [(aa (aa (U 0) (U 1)) (T 0)),(cd .b [(aa (aa (U 0) (U 1)) (dp (T 1)))])]) _)]] ?h rfl;. intro y;intros;exact y
 case h=>dsimp;exact rfl
def zv:bn:=⟨"_law_brings",2,["parts","at"],0,HA⟩
noncomputable def By:List aY:=by
 refine(?f:bv ["kinds","parts","place","spot","ahead","here","later","names"] 74) ?y [ay (al 3) (aa (dh 9) (aa (aa (U 1) (U 2)) (T 1))),ay (cK [(al 4),(al 5)]) (bx [(aq 57 [(U 0),(U 1),(U 2),(U 3)]),(aq 58 [(U 1),(U 2)])]),.a (br false [(E .Is (U 5) (bz (.b))),(E .Lt (U 4) (T 0)),(E .Eq (U 3) (T 0))]) [aB [(bz (.a false))]] [] _,.a (E .Eq (aq 58 [(U 1),(U 4)]) (U 5)) [aB [(bz (.a true))]] [] _,ay (al 6) (.b (br true [(E .Lt (aL .Add (U 2) (T 1)) (cd .a [(U 0)])),(E .Eq (aa (U 0) (aL .Add (U 2) (T 1))) (M [99,111,100,101]))]) (aa (U 1) (aL .Add (U 2) (T 1))) (aC false [(M [])]) _),.a (br false [(E .NotEq (aa (U 5) (T 0)) (M [108,117,105])),(E .NotEq (aa (U 6) (T 0)) (M [97,100,100,105])),(E .NotEq (aa (aa (U 1) (U 4)) (T 0)) (M [97,100,100,105]))]) [aB [(bz (.a false))]] [] _,ay (al 7) (aC false [(aa (dh 9) (aa (U 6) (T 1))),(aa (dh 9) (aa (U 6) (T 2))),(aa (dh 9) (aa (aa (U 1) (U 4)) (T 2)))]),.a (br false [(E .NotEq (U 7) (aC false [(U 3),(U 3),(U 3)])),(E .In (M [37]) (aL .Add (aa (U 6) (T 3)) (aa (aa (U 1) (U 4)) (T 3)))),(E .NotEq (cd .b [(aa (U 6) (T 3))]) (cd .b [(aa (aa (U 1) (U 4)) (T 3))]))]) [aB [(bz (.a false))]] [] _,aB [(E .Eq (aq 58 [(U 1),(aq 57 [(U 0),(U 1),(U 4),(U 3)])]) (U 5))]] ?h rfl;. intro y;intros;exact y
 case h=>dsimp;exact rfl
def B7:bn:=⟨"_law_twice",3,["kinds","parts","place","spot","ahead","here","later","names"],0,By⟩
noncomputable def mm:List aY:=by
 refine(?f:bv ["kinds","parts","found","at","kind","there"] 75) ?y [ay (al 2) (.e true [] _),.b [] (cK [(al 3),(al 4)]) 3 [(U 0)] _ _ [ay (al 5) (.b (E .Eq (U 4) (M [108,97,98,101,108])) (aa (aq 55 [(U 0),(U 1),(U 3)]) (T 1)) (cd .a [(U 0)]) _),.a (br true [(E .Lt (U 5) (cd .a [(U 0)])),(E .Eq (aa (U 0) (U 5)) (M [99,111,100,101])),(aq 56 [(aa (U 1) (U 5))])]) [ay (hq (U 2) (.a (aa (aa (U 1) (U 3)) (T 0)) [] [(dp (T 1))] _ _)) (aa (aa (U 1) (U 5)) (T 2))] [] _] _,aB [(U 2)]] ?h rfl;. intro y;intros;exact y
 case h=>dsimp;exact rfl
def zX:bn:=⟨"_law_leads",2,["kinds","parts","found","at","kind","there"],0,mm⟩
noncomputable def ra:List aY:=by
 refine(?f:bv ["leads","goal","here","turn"] 76) ?y [ay (al 2) (U 1),.b [] (al 3) 1 [(aL .Add (cd .a [(U 0)]) (T 1))] _ _ [.a (E .NotIn (U 2) (U 0)) [aB [(E .NotEq (U 2) (U 1))]] [] _,ay (al 2) (aa (U 0) (U 2)),.a (E .Eq (U 2) (U 1)) [aB [(bz (.a false))]] [] _] _,aB [(bz (.a true))]] ?h rfl;. intro y;intros;exact y
 case h=>dsimp;exact rfl
def B0:bn:=⟨"_law_is_led",2,["leads","goal","here","turn"],0,ra⟩
noncomputable def Bu:List aY:=by
 refine(?f:bv ["word_now","last","is_nought"] 77) ?y [.a (E .NotIn (aa (U 0) (T 0)) (bx [(M [97,100,100]),(M [97,100,100,105])])) [aB [(bz (.a false))]] [] _,.a (E .Eq (aa (dh 9) (aa (U 0) (T 1))) (T 0)) [aB [(bz (.a true))]] [] _,ay (al 1) (aa (U 0) (T 3)),ay (al 2) (.b (E .Eq (aa (U 0) (T 0)) (M [97,100,100])) (E .Eq (bI .t (dh 9) [(U 1),(T 1)]) (T 0)) (E .Eq (U 1) (M [48])) _),aB [(br true [(U 2),(E .Eq (aa (dh 9) (aa (U 0) (T 1))) (aa (dh 9) (aa (U 0) (T 2))))])]] ?h rfl;. intro y;intros;exact y
 case h=>dsimp;exact rfl
def y_:bn:=⟨"_law_is_idle",1,["word_now","last","is_nought"],0,Bu⟩
noncomputable def hm:List aY:=by
 refine(?f:bv ["kinds","parts","place","leads","word_now","names","there"] 78) ?y [ay (al 4) (aa (U 1) (U 2)),ay (cK [(al 5),(al 6)]) (aq 55 [(U 0),(U 1),(aL .Add (U 2) (T 1))]),.a (br false [(E .In (aa (U 4) (dp (T 1))) (U 5)),(aq 61 [(U 3),(aa (U 4) (dp (T 1)))])]) [aB [(bz (.a false))]] [] _,.a (br false [(E .Eq (aa (U 4) (T 0)) (M [106,97,108])),(E .Eq (aL .Add (U 2) (T 1)) (cd .a [(U 0)])),(E .NotEq (aa (U 0) (aL .Add (U 2) (T 1))) (M [99,111,100,101]))]) [aB [(bz (.a true))]] [] _,aB [(br false [(.h (aq 56 [(aa (U 1) (aL .Add (U 2) (T 1)))]) _),(E .NotIn (aa (U 4) (dp (T 1))) (aa (aq 55 [(U 0),(U 1),(aL .Add (U 2) (T 2))]) (T 0)))])]] ?h rfl;. intro y;intros;exact y
 case h=>dsimp;exact rfl
def y':bn:=⟨"_law_goal_is_right",4,["kinds","parts","place","leads","word_now","names","there"],0,hm⟩
noncomputable def fN:List aY:=by
 refine(?f:bv ["rows","kinds","parts","leads","ahead","is_dead","at","kind","word_now"] 79) ?y [ay (al 1) (.d false (aq 54 [(U 0)]) "row" _ 0 [(U 0)] (bh 0 0 0) (bh 0 0 0) [] _ _),ay (al 2) (.d false (bI .l (.l (U 0) [44] [32] 0 0 _ _ _ _) []) "row" _ 0 [(U 0)] (bh 0 0 0) (bh 0 0 0) [] _ _),ay (cK [(al 3),(al 4),(al 5)]) (bx [(aq 60 [(U 1),(U 2)]),(aC false [(M []),(M []),(M [])]),(bz (.a false))]),.b [] (cK [(al 6),(al 7)]) 3 [(U 1)] _ _ [.a (E .Eq (U 7) (M [115,107,105,112])) [.d _] [] _,.a (E .NotEq (U 7) (M [99,111,100,101])) [ay (cK [(al 4),(al 5)]) (bx [(aC false [(M []),(M []),(M [])]),(bz (.a false))]),.d _] [] _,ay (al 8) (aa (U 2) (U 6)),.a (br false [(U 5),(aq 62 [(U 8)]),(br true [(E .Eq (aa (U 8) (T 0)) (M [108,119])),(E .Eq (aa (U 4) (T 0)) (M [115,119])),(E .Eq (aa (U 4) (T 2)) (aa (U 8) (T 2)))])]) [aB [(bz (.a false))]] [] _,.a (br true [(br false [(aq 56 [(U 8)]),(E .In (aa (U 8) (T 0)) (aq 33 []))]),(.h (aq 63 [(U 1),(U 2),(U 6),(U 3)]) _)]) [aB [(bz (.a false))]] [] _,.a (br true [(E .In (aa (U 8) (T 0)) (bx [(M [108,117,105]),(M [97,100,100,105])])),(aq 59 [(U 1),(U 2),(U 6)])]) [aB [(bz (.a false))]] [] _,ay (cK [(al 4),(al 5)]) (bx [(U 8),(br false [(aq 56 [(U 8)]),(E .Eq (aa (U 8) (T 0)) (M [106,97,108,114]))])])] _,aB [(bz (.a true))]] ?h rfl;. intro y;intros;exact y
 case h=>dsimp;exact rfl
def B1:bn:=⟨"_law_is_neat",1,["rows","kinds","parts","leads","ahead","is_dead","at","kind","word_now"],0,fN⟩
noncomputable def cQ:List aY:=by
 refine(?f:bv ["script","well","rows","is_far","text","short","found","events","end","told_events","told_end"] 80) ?y [ay (al 1) (aC true [(br false [(.d true (aL .Mod (U 0) (T 2147483647)) "number" _ 0 [(.a (U 0) [] [(T 60)] _ _)] (bh 0 0 0) (bh 0 0 0) [] _ _),(aC true [(T 3)])]),(T 0)]),ay (cK [(al 2),(al 3)]) (aq 44 [(U 1)]),ay (al 4) (bI .m (M [10]) [(U 2)]),ay (al 5) (aq 30 [(U 4)]),.a (U 3) [aB [(E .Eq (U 5) (U 4))]] [] _,ay (al 6) (bI .l (U 5) [(M [10])]),.a (br false [(E .NotEq (aq 30 [(U 5)]) (U 5)),(E .Gt (cd .a [(U 6)]) (cd .a [(U 2)])),(.h (aq 64 [(U 6)]) _)]) [aB [(bz (.a false))]] [] _,.a (E .NotEq (.d false (U 0) "row" _ 0 [(U 6)] (bh 0 0 0) (bh 0 0 0) [(E .NotEq (aq 54 [(U 0)]) (M [99,111,100,101]))] _ _) (.d false (U 0) "row" _ 0 [(U 2)] (bh 0 0 0) (bh 0 0 0) [(E .NotEq (aq 54 [(U 0)]) (M [99,111,100,101]))] _ _)) [aB [(bz (.a false))]] [] _,ay (cK [(al 7),(al 8)]) (aq 53 [(U 2)]),ay (cK [(al 9),(al 10)]) (aq 53 [(U 6)]),.a (E .Is (U 8) (bz (.b))) [aB [(E .Eq (.a (U 9) [] [(cd .a [(U 7)])] _ _) (U 7))]] [] _,aB [(E .Eq (bx [(U 9),(U 10)]) (bx [(U 7),(U 8)]))]] ?h rfl;. intro y;intros;exact y
 case h=>dsimp;exact rfl
def tF:bn:=⟨"law",1,["script","well","rows","is_far","text","short","found","events","end","told_events","told_end"],0,cQ⟩
noncomputable def K2:List V:=[.d [.f (.a [122,101,114,111]),.f (.a [114,97]),.f (.a [115,112]),.f (.a [103,112]),.f (.a [116,112]),.f (.a [116,48]),.f (.a [116,49]),.f (.a [116,50]),.f (.a [115,48]),.f (.a [115,49]),.f (.a [97,48]),.f (.a [97,49]),.f (.a [97,50]),.f (.a [97,51]),.f (.a [97,52]),.f (.a [97,53]),.f (.a [97,54]),.f (.a [97,55]),.f (.a [115,50]),.f (.a [115,51]),.f (.a [115,52]),.f (.a [115,53]),.f (.a [115,54]),.f (.a [115,55]),.f (.a [115,56]),.f (.a [115,57]),.f (.a [115,49,48]),.f (.a [115,49,49]),.f (.a [116,51]),.f (.a [116,52]),.f (.a [116,53]),.f (.a [116,54])],.e [(.a [102,112],.b 8),(.a [122,101,114,111],.b 0),(.a [120,48],.b 0),(.a [114,97],.b 1),(.a [120,49],.b 1),(.a [115,112],.b 2),(.a [120,50],.b 2),(.a [103,112],.b 3),(.a [120,51],.b 3),(.a [116,112],.b 4),(.a [120,52],.b 4),(.a [116,48],.b 5),(.a [120,53],.b 5),(.a [116,49],.b 6),(.a [120,54],.b 6),(.a [116,50],.b 7),(.a [120,55],.b 7),(.a [115,48],.b 8),(.a [120,56],.b 8),(.a [115,49],.b 9),(.a [120,57],.b 9),(.a [97,48],.b 10),(.a [120,49,48],.b 10),(.a [97,49],.b 11),(.a [120,49,49],.b 11),(.a [97,50],.b 12),(.a [120,49,50],.b 12),(.a [97,51],.b 13),(.a [120,49,51],.b 13),(.a [97,52],.b 14),(.a [120,49,52],.b 14),(.a [97,53],.b 15),(.a [120,49,53],.b 15),(.a [97,54],.b 16),(.a [120,49,54],.b 16),(.a [97,55],.b 17),(.a [120,49,55],.b 17),(.a [115,50],.b 18),(.a [120,49,56],.b 18),(.a [115,51],.b 19),(.a [120,49,57],.b 19),(.a [115,52],.b 20),(.a [120,50,48],.b 20),(.a [115,53],.b 21),(.a [120,50,49],.b 21),(.a [115,54],.b 22),(.a [120,50,50],.b 22),(.a [115,55],.b 23),(.a [120,50,51],.b 23),(.a [115,56],.b 24),(.a [120,50,52],.b 24),(.a [115,57],.b 25),(.a [120,50,53],.b 25),(.a [115,49,48],.b 26),(.a [120,50,54],.b 26),(.a [115,49,49],.b 27),(.a [120,50,55],.b 27),(.a [116,51],.b 28),(.a [120,50,56],.b 28),(.a [116,52],.b 29),(.a [120,50,57],.b 29),(.a [116,53],.b 30),(.a [120,51,48],.b 30),(.a [116,54],.b 31),(.a [120,51,49],.b 31)],.f (.b 4294967296),.e [(.a [98,101,113],.a [98,110,101]),(.a [98,110,101],.a [98,101,113]),(.a [98,108,116],.a [98,103,101]),(.a [98,103,101],.a [98,108,116]),(.a [98,108,116,117],.a [98,103,101,117]),(.a [98,103,101,117],.a [98,108,116,117])],.g [.f (.a [97,100,100]),.f (.a [115,117,98]),.f (.a [115,108,108]),.f (.a [115,108,116]),.f (.a [115,108,116,117]),.f (.a [120,111,114]),.f (.a [115,114,108]),.f (.a [115,114,97]),.f (.a [111,114]),.f (.a [97,110,100]),.f (.a [109,117,108]),.f (.a [109,117,108,104]),.f (.a [109,117,108,104,115,117]),.f (.a [109,117,108,104,117]),.f (.a [100,105,118]),.f (.a [100,105,118,117]),.f (.a [114,101,109]),.f (.a [114,101,109,117]),.f (.a [115,108,116,105]),.f (.a [115,108,116,105,117]),.f (.a [120,111,114,105]),.f (.a [111,114,105]),.f (.a [97,110,100,105]),.f (.a [115,108,108,105]),.f (.a [115,114,108,105]),.f (.a [115,114,97,105]),.f (.a [108,98]),.f (.a [108,104]),.f (.a [108,119]),.f (.a [108,98,117]),.f (.a [108,104,117])],.g [.f (.a [115,98]),.f (.a [115,104]),.f (.a [115,119])],.f (.a [65,66,67,68,69,70,71,72,73,74,75,76,77,78,79,80,81,82,83,84,85,86,87,88,89,90,97,98,99,100,101,102,103,104,105,106,107,108,109,110,111,112,113,114,115,116,117,118,119,120,121,122,95]),.f (.a [65,66,67,68,69,70,71,72,73,74,75,76,77,78,79,80,81,82,83,84,85,86,87,88,89,90,97,98,99,100,101,102,103,104,105,106,107,108,109,110,111,112,113,114,115,116,117,118,119,120,121,122,95,48,49,50,51,52,53,54,55,56,57,46,36]),.g [.f (.a [46,116,101,120,116]),.f (.a [46,100,97,116,97]),.f (.a [46,114,111,100,97,116,97]),.f (.a [46,98,115,115]),.f (.a [46,115,101,99,116,105,111,110])],.e [(.a [122,101,114,111],.b 0),(.a [120,48],.b 0),(.a [114,97],.b 1),(.a [115,112],.b 2),(.a [116,48],.b 5),(.a [120,53],.b 5),(.a [116,49],.b 6),(.a [115,49],.b 9),(.a [97,48],.b 10)],.f (.b 4294967296)]
noncomputable def hG:List (Option bn):=[none,some B9,some z_,some ph,some zq,some BW,some BV,some B8,some qN,some pf,some kE,some zs,some Aa,some zt,some Ae,some tJ,some tE,some tL,some tK,some Ac,some tM,some Ab,some tN,some zr,some tC,some B',some tD,some tB,some pg,some BE,some Ad,some JH,some JG,some JF,some JI,some JJ,some tG,some B3,some zW,some tH,some B6,some nP,some B2,some BY,some B5,some JL,some zY,some zZ,some BX,some BZ,some z',none,some qP,some tI,some qO,some zu,some JK,some B4,some zv,some B7,some zX,some B0,some y_,some y',some B1,some tF]
noncomputable abbrev vt:Nat:=0
noncomputable abbrev my:Nat:=51
noncomputable abbrev rB:Nat:=65
def aj:ds:=λk=>K2[k]?
noncomputable def dg:Int:=4294967296
noncomputable def oP(d:List (aD×aD))(a:Int):Nat->Option Int|0=>some 0|n+1=>(oP d a n).bind λt=>(V.f ((bD d (.b ((a+(n:Int))%dg))).getD (.b ((a+(n:Int))*7%251)))).l.map λb=>t+b*256^n
def yy:List V->cM V:=λy z=>(sZ y).bind λp=>p.2.1.l.bind λa=>p.2.2.l.bind λw=>(aO z p.1).r.bind λd=>if 0<=w/\w<=4 then(oP d a w.toNat).map λt=>(.b t,z)else none
def yA:List V->cM V:=λz y=>match z with|[]=>none|a::l=>(sZ l).map λp=>(.k [a,p.1,p.2.1,p.2.2],y)
noncomputable def iQ(w:Nat):Nat->dd|0=>λO O O=>none|n+1=>λk z y=>if k=n then(if n=vt then yA z y else if n=my then yy z y else match(hG[n]?).join with|some f=>nC aj (iQ w n) w f z y|none=>none)else iQ w n k z y
abbrev aw:=Addr->Option Obj
def aw.a(y q:aw):Prop:=∀z o,y z=some o->q z=some o
noncomputable abbrev fq(z:List Value)(n:Nat):Obj:={cls:=.type "list",dict:=none,data:=.seq z.toArray n,slots:=#[]}
noncomputable abbrev kQ(z:List Value)(n:Nat):Obj:={cls:=.type "tuple",dict:=none,data:=.seq z.toArray n,slots:=#[]}
noncomputable abbrev Y(l:B):Str:=⟨l.toArray⟩
def Lq(i:Int)(v:Value):Bool:=match v with|.none=>false|.ellipsis=>false|.notImplemented=>false|.bool _=>false|.int j _=>i==j|.float ..=>false|.str ..=>false|.bytes ..=>false|.type _=>false|.builtin _=>false|.ref _=>false
def R0(s:B)(v:Value):Bool:=match v with|.none=>false|.ellipsis=>false|.notImplemented=>false|.bool _=>false|.int ..=>false|.float ..=>false|.str y _=>Y s==y|.bytes ..=>false|.type _=>false|.builtin _=>false|.ref _=>false
def oM(k:aD)(v:Value):Bool:=match k with|.c=>false|.d _=>false|.b i=>Lq i v|.a s=>R0 s v
theorem ke:Y a=Y b↔a=b:=by
 constructor;. intro h;simpa using(aJ (λx:Str=>x.cps.toList) h)
 . rintro rfl;rfl
theorem Lo{v}(h:oM (.b i) v=true):∃t,v=.int i t:=by induction v with|int j t=>exact J (show i=j from eq_of_beq h) ⟨_,rfl⟩|_=>exact am h
theorem Lp{v}(h:oM (.a s) v=true):∃t,v=.str (Y s) t:=by induction v with|str y t=>exact J (show Y s=y from eq_of_beq h) ⟨_,rfl⟩|_=>exact am h
theorem Dg{v}(h:oM k v=true):(∃i t,k=.b i/\v=.int i t)\/(∃s t,k=.a s/\v=.str (Y s) t):=by induction k with|b i=>exact av (Lo h) λt e=>.inl (ax i t ⟨rfl,e⟩)|a s=>exact av (Lp h) λt e=>.inr (ax s t ⟨rfl,e⟩)|_=>exact am h
@[elab_as_elim]theorem mp{v}{z:aD->Value->Prop}(h:oM k v=true)(q:∀i t,z (.b i) (.int i t))(j:∀s t,z (.a s) (.str (Y s) t)):z k v:=by
 refine(Dg h).elim (λy=>?_) λy=>?_;. refine bg y λi t u g=>?_;refine J u (J g ?_);exact q i t
 . refine bg y λs t w o=>?_;refine J w (J o ?_);exact j s t
noncomputable def RR(w:World):aD->Int|.c=>0|.d _=>0|.b i=>hashInt i|.a s=>hashStr w (Y s)
theorem IN{w}{q}{t u}{Q:Bool->Shared->Prop}(h:Q false s):wpAny (model z w) j (eqBool (.int i t) (.str y u)) Q q s:=by refine gV (J (if_neg (by simp)) ?_);exact bT (m:=richCompare .Eq (.int i t) (.str y u)) (EqMixed.eq_int_str (sv h))
theorem IP{w}{q}{t u}{Q:Bool->Shared->Prop}(h:Q false s):wpAny (model z w) j (eqBool (.str y t) (.int i u)) Q q s:=by refine gV (J (if_neg (by simp)) ?_);exact bT (m:=richCompare .Eq (.str y t) (.int i u)) (EqMixed.eq_str_int (sv h))
def eQ(g:Program)(w:World):KeyKind g w aD where
is:=oM;hash:=RR w;inj:=λv a b c z=>by
 revert z;refine mp c (λi t z=>?_) λs t z=>?_;. induction b with|b j=>exact aJ aD.b (by first|exact eq_of_beq z|exact(eq_of_beq z).symm)|_=>exact am z
 . induction b with|a j=>exact aJ aD.a (by first|exact ke.mp (eq_of_beq z)|exact(ke.mp (eq_of_beq z)).symm)|_=>exact am z
byValue:=λk v h=>mp h (λO O=>rfl) λO O=>rfl;pyHash:=λo h=>by revert h;exact mp o (λO O h=>wpAny_pyHash_int h) λO O h=>wpAny_pyHash_str h
eqBool:=λ{A E s a b u v Q}f o h=>by
 revert h;refine mp f (λi t=>?_) λx t=>?_
 . refine mp o (λj u h=>?_) λy u h=>?_
   . refine wpAny_eqBool_int ?_;have:(i==j)=decide (aD.b i=aD.b j):=by
      by_cases e:i=j;. refine J e ?_;simp
      . simp [e]
     exact J this h
   . refine IN ?_;have:false=decide (aD.b i=aD.a y):=by simp
     exact J this h
 . refine mp o (λj u h=>?_) λy u h=>?_
   . refine IP ?_;have:false=decide (aD.a x=aD.b j):=by simp
     exact J this h
   . refine wpAny_eqBool_str ?_;have:decide (Y x=Y y)=decide (aD.a x=aD.a y):=by
      by_cases e:x=y;. refine J e ?_;simp
      . refine(e' (λq=>e (ke.mp q))).trans (J (e' (by simpa using e)) ?_);rfl
     exact J this h
«strs»:=λk x t v h=>by
 refine(Dg h).elim (λd=>?_) λd=>?_;. refine bg d λi u m e=>?_;refine J m ?_;cases e
 . refine bg d λs u p e=>?_;refine J p ?_;injection e with e;clear h;subst e;induction v with|str y r=>refine(?_:(Y s==y)=(y==Y s));refine J (propext lc) (J (propext ez) ?_);exact J (propext ez) eq_comm|_=>rfl
def eK:aD->Value->Prop|.c,v=>v=.none|.d b,v=>v=.bool b|.b i,v=>∃t,v=.int i t|.a l,v=>∃t,v=.str (Y l) t/\l.length<=ak
def pJ:aD->Prop|.a l=>l.length<=ak|_=>True
noncomputable def dX:List (aD×aD)->List (aD×Value)->Prop|[],l=>l=[]|z::d,l=>∃v y,l=(z.1,v)::y/\(eK z.2 v/\pJ z.1)/\dX d y
section
variable(z:Program)(w:World)(q:Addr)
noncomputable abbrev rh(y:List DictEntry)(n:Nat):Obj:={cls:=.type "dict",data:=.dict y.toArray n}
mutual noncomputable def bs(u:aw)(g:List Addr):V->Value->Prop|.f a,v=>eK a v|.d c,v=>∃a j n,v=.ref a/\u a=some (fq j n)/\be u g c j/\c.length<=2*ak|.g c,v=>∃a j n,v=.ref a/\u a=some (kQ j n)/\be u g c j/\c.length<=2*ak|.e d,v=>∃a o f,v=.ref a/\u a=some o/\o.IsDictOf (eQ z w) f/\dX d f/\(a==sysModules)=false/\d.length<=2*ak|.k r,v=>∃x p t n j,v=.ref x/\u x=some (instObj q p)/\u p=some (rh t n)/\be u g r j/\j.length=4/\∀i y,j[i]?=some y->getL (cj i) t=some (some y)|.c n,v=>∃a,v=.ref a/\g[n]?=some a|.i,_=>False noncomputable def be(u:aw)(g:List Addr):List V->List Value->Prop|[],j=>j=[]|x::c,j=>∃v m,j=v::m/\bs u g x v/\be u g c m end
end
section
variable{z:Addr}
mutual theorem bs.F(j:p.a t)(y:k<+:b):∀{x:V}{v:Value},bs u w z p k x v->bs u w z t b x v|.f a,v,h=>h|.d f,v,h=>by refine hg h λa g n e q s=>?_;refine ae s λc m=>?_;exact(dK a g n ⟨e,j _ _ q,be.L j y c,m⟩)|.g f,v,h=>by refine hg h λa g n e q Y=>?_;refine ae Y λc m=>?_;exact(dK a g n ⟨e,j _ _ q,be.L j y c,m⟩)|.e d,v,h=>by refine hg h λa o i e q c=>?_;exact(dK a o i ⟨e,j _ _ q,c⟩)|.k I,v,h=>by refine ja h λx U C n g M=>?_;refine hQ M λe q c m T=>?_;exact(pe x U C n g ⟨e,j _ _ q,j _ _ c,be.L j y m,T⟩)|.c n,v,h=>by refine D h λa e q=>?_;refine av y λr B=>?_;refine J B.symm ⟨a,e,?_⟩;obtain⟨E,N⟩:=(bo.mp q);refine(iI E).trans ?_;exact q|.i,v,h=>h.elim theorem be.L(j:p.a t)(y:k<+:b):∀{f:List V}{g:List Value},be u w z p k f g->be u w z t b f g|[],g,h=>h|x::f,g,h=>by refine bP h λv l e q c=>?_;exact(ax v l ⟨e,bs.F j y q,be.L j y c⟩)end
theorem be.K:∀{q:List V}{y:List Value},be j w z m p q y->y.length=q.length:=by intro u;induction u with|nil=>intro y h;exact J h rfl|cons x q g=>intro y h;refine bg h λv o d c=>?_;refine J d (ae c λt f=>?_);simp [g f]
theorem be.P:∀{o:List V}{g:List Value},be j w z d c o g->∀{i:Nat}{x:V},o[i]?=some x->∃v,g[i]?=some v/\bs j w z d c x v:=by intro f;induction f with|nil=>intro g h i x e;exact C e|cons y o m=>intro g h i x e;refine bg h λv p t k=>?_;refine J t (ae k λb l=>?_);induction i using Nat.casesOn with|zero=>exact J (ag e).symm ⟨v,rfl,b⟩|succ i=>simp at e;refine D (m l e) λu q r=>?_;exact⟨u,by simpa using q,r⟩
theorem be.Q:∀{g j:List V}{q u:List Value},be y w z o d g q->be y w z o d j u->be y w z o d (g++j) (q++u):=by intro c;induction c with|nil=>intro j q u h k;obtain rfl:q=[]:=h;exact k|cons x g f=>intro j q u h k;refine bg h λv m p t=>?_;refine J p (ae t λr b=>?_);exact(ax v _ ⟨rfl,r,f b k⟩)
theorem be.S{v}(h:bs y w z q j x v):be y w z q j [x] [v]:=(ax v [] ⟨rfl,h,rfl⟩)
theorem be.Z:∀{j:List V}{y:List Value},be q w z u g j y->∀n,be q w z u g (j.take n) (y.take n):=by intro o;induction o with|nil=>intro y h n;obtain rfl:y=[]:=h;cases n<;>rfl|cons x j d=>intro y h n;refine bg h λv c f m=>?_;refine J f (ae m λp t=>?_);induction n using Nat.casesOn with|zero=>rfl|succ n=>exact(ax v _ ⟨rfl,p,d t n⟩)
theorem be.W:∀{j:List V}{y:List Value},be q w z u g j y->∀n,be q w z u g (j.drop n) (y.drop n):=by intro o;induction o with|nil=>intro y h n;obtain rfl:y=[]:=h;cases n<;>rfl|cons x j d=>intro y h n;induction n using Nat.casesOn with|zero=>exact h|succ n=>refine bg h λv c f m=>?_;refine J f (ae m λt p=>?_);simp only [List.drop_succ_cons];exact d p n
theorem be.ad{v}(h:bs q w z o d x v):∀{g:List V}{j:List Value},be q w z o d g j->∀n,be q w z o d (g.set n x) (j.set n v):=by intro f;induction f with|nil=>intro j k n;obtain rfl:j=[]:=k;rfl|cons y g m=>intro j k n;refine bg k λu p t r=>?_;refine J t (ae r λb c=>?_);induction n using Nat.casesOn with|zero=>exact(ax v _ ⟨rfl,h,c⟩)|succ n=>exact(ax u _ ⟨rfl,b,m c n⟩)
end
section
open PySem.Builtin PySem.Builtin.Str PySem.StrLaws
theorem rX l:(Y l).cps.toList=l:=by simp [Y]
theorem FF x:x=Y x.cps.toList:=by induction x;simp [Y]
theorem jy l:(Y l).length=l.length:=by simp [Y,Str.length]
theorem mH l i j:strSub (Y l) i j=Y ((l.drop i).take (j-i)):=by rw [FF (strSub (Y l) i j),strSub_toList,rX]
theorem vG a b:Y a++Y b=Y (a++b):=by refine(?_:Str.append _ _=_);unfold Str.append Y;simp
theorem Ch{z:Type}p:∀l:List z,l.drop (l.takeWhile p).length=l.dropWhile p:=by intro y;induction y with|nil=>exact rfl|cons x l q=>
refine J qr (J yj ?_);by_cases h:p x=true;. refine J (if_pos h) (J (if_pos h) ?_);simpa using q
. refine J (if_neg h) (J (if_neg h) ?_);rfl
theorem FA g l:Txt.stripBy g true true (Y l)=Y (dI g l):=by
 refine(PyProof.Rows.stripBy_eq _ _ _ _).trans ((mH _ _ _).trans ?_);simp only [stripLo,stripHi,if_true,rX,jy];congr 1;refine J (Ch _ _) ?_;unfold dI;refine J (Ch g (l.dropWhile g).reverse).symm (J List.drop_reverse ?_);refine J (sw _) ?_;congr 1;have z:(l.takeWhile g).length+(l.dropWhile g).length=l.length:=by refine(aN dN).trans (J yk ?_);rfl
 exact(Nat.sub_right_comm _ _ _).trans (aJ (λx=>x-_) (Nat.sub_eq_of_eq_add (z.symm.trans (kq _ _))))
theorem FC l:Txt.strip (Y l)=Y (dI ca l):=FA _ l
theorem Rm l y:Txt.stripChars (Y l) (Y y)=Y (dI (λO=>y.contains O) l):=by
 have:(λc=>(Y y).cps.contains c)=(λc=>y.contains c):=by funext c;simp [Y]
 unfold Txt.stripChars;exact J (show(Y y).cps.contains=(λc=>y.contains c)from this) (FA _ l)
theorem wJ s:∀q,Str.join (Y s) (q.map Y)=Y (cm s q):=by intro z;induction z with|nil=>exact rfl|cons x z j=>induction z using List.casesOn with|nil=>exact rfl|cons y l=>refine(?_:Y x++Y s++Str.join (Y s) (Y y::l.map Y)=_);refine J (show Y y::l.map Y=(y::l).map Y from rfl) (J (j) ?_);rw [vG,vG];rfl
theorem K3 s z:glued (Y s) (z.map Y)=Y (cm s z):=by rw [glued_eq_join];exact(wJ _ _)
theorem Nz(l:List Str):l=(l.map λx=>x.cps.toList).map Y:=by
 rw [di];conv=>lhs;rw [<-List.map_id l]
 exact qs λx O=>FF x
theorem Fn c:∀l,cc c l≠[]:=by intro z;induction z with|nil=>simp [cc]|cons x l y=>
unfold cc;split;. simp
. split<;>simp
theorem PQ:∀{l:B},c∉l->cc c l=[l]:=by intro z;induction z with|nil=>intro O;exact rfl|cons x l y=>intro h;simp only [List.mem_cons,not_or]at h;refine(if_neg (fv h.1)).trans (J (y h.2) ?_);rfl
theorem PP(r:B):∀{l:B},c∉l->cc c (l++c::r)=l::cc c r:=by intro z;induction z with|nil=>intro O;exact(if_pos rfl)|cons x l y=>intro h;simp only [List.mem_cons,not_or]at h;refine(if_neg (fv h.1)).trans (J (y h.2) ?_);rfl
theorem PR:∀{z:List B},z≠[]->(∀p∈z,c∉p)->cc c (cm [c] z)=z:=by intro q;induction q with|nil=>intro h O;exact absurd rfl h|cons x q j=>induction q using List.casesOn with|nil=>intro O h;exact PQ (h x (bF.mpr rfl))|cons y l=>intro O h;refine(?_:cc c (x++[c]++cm [c] (y::l))=_);refine J (gW _ _ _) (J lT ?_);refine J (PP _ (h x (.head _))) (J (j (by simp) λp u=>h p (.tail _ u)) ?_);rfl
theorem Q6 x y:Txt.split x y≠[]:=by
 unfold Txt.split;split;. simp
 . split;. simp
   . rw [partsBetween_eq];refine go (partsFrom_ne x y.length 0 (occurrences x y 0 x.length (x.length+1))) λp r e=>?_;refine J e ?_;simp
theorem Fu c l:Txt.split (Y l) (Y [c])=(cc c l).map Y:=by have z:Str.join (Y [c]) (Txt.split (Y l) (Y [c]))=Y l:=join_split _ _;have y:∀p∈Txt.split (Y l) (Y [c]),c∉p.cps.toList:=split_free (Y l) c;have j:=Q6 (Y l) (Y [c]);generalize Txt.split (Y l) (Y [c])=u at z y j⊢;have e:=Nz u;rw [e]at z⊢;rw [wJ,ke]at z;refine J (aN z) ?_;congr 1;symm;refine PR (λe=>j (List.map_eq_nil_iff.mp e)) λp g=>?_;refine D (cG.mp g) λq w o=>?_;exact J o.symm (y q w)
def jH(c:Nat):Bool:=!ca c
theorem xj{x}{l:B}(h:ca x=true):cn (x::l)=cn l:=by refine(cn.eq_def _).trans ?_;simp only [h,if_true]
theorem vE:∀{l:B},ca x=false->cn (x::l)=(x::l.takeWhile jH)::cn (l.dropWhile jH)
|[],h=>by refine(cn.eq_def _).trans ?_;simp only [h,Bool.false_eq_true,if_false];rfl|y::l,h=>by
 refine(cn.eq_def _).trans ?_;simp only [h,Bool.false_eq_true,if_false];by_cases q:ca y=true
 . have:jH y=false:=by simp [jH,q]
   simp only [q,if_true];refine J (qt (by simp [this])) (J (nb (by simp [this])) ?_);rfl
 . have z:ca y=false:=by simpa using q
   have:jH y=true:=by simp [jH,z]
   simp only [z,Bool.false_eq_true,if_false];refine J (vE z) (J (qu this) ?_);exact J (nc this) rfl
noncomputable abbrev F1(l:B)(p:Nat×Nat):B:=(l.drop p.1).take (p.2-p.1)
theorem rZ l:∀(m z:Nat)(y:Array (Nat×Nat))(j:Option Nat),z+m=l.length->y.size<=z->(∀b,j=some b->b<=z/\y.size<=b)->(swEnd (Y l) (forIn (List.range' z m) ((none,y,j):SwSt) (swBody (Y l) (l.length+1))).run).map (F1 l)=y.toList.map (F1 l)++(match j with|none=>cn (l.drop z)|some b=>((l.drop b).take (z-b)++(l.drop z).takeWhile jH)::cn ((l.drop z).dropWhile jH))
|0,z,y,j,u,_,d=>by have g:l.drop z=[]:=nd (de (aN u));rw [g];refine(?_:(swEnd (Y l) (none,y,j)).map _=_);induction j with|none=>exact(List.append_nil _).symm|some b=>refine(?_:(y.push (b,(Y l).length)).toList.map (F1 l)=_);simp only [Array.toList_push,List.map_append,List.map_cons,List.map_nil,List.takeWhile_nil,List.append_nil,List.dropWhile_nil,cn,jy];have:z=l.length:=u;exact J this rfl
|m+1,z,y,j,u,w,d=>by
 have q:z<l.length:=au (bw z m) (de u);rw [List.range'_succ,List.forIn_cons];have k:(Y l).cps.getD z 0=l[z]:=by simp [Y,q]
 have g:l.drop z=l[z]::l.drop (z+1):=dT q;have f:¬((y.size==l.length+1)=true):=by simp;exact iJ (au w (bX q))
 have p:Unicode.isSpace l[z]=ca l[z]:=rfl;unfold swBody;dsimp only;rw [if_neg f];refine J k (J p ?_);induction j with
|none=>induction o:ca l[z]with|true=>refine(?_:(swEnd (Y l) (forIn (List.range' (z+1) m) ((none,y,none):SwSt) (swBody (Y l) (l.length+1))).run).map _=_);rw [rZ l m (z+1) y none ((qv z m).trans u) (bX w) (λO e=>C e)];refine J g ?_;simp only [xj o]|false=>refine(?_:(swEnd (Y l) (forIn (List.range' (z+1) m) ((none,y,some z):SwSt) (swBody (Y l) (l.length+1))).run).map _=_);rw [rZ l m (z+1) y (some z) ((qv z m).trans u) (bX w) (λb e=>by obtain rfl:=ag e;exact⟨e_ _,w⟩)];refine J g ?_;simp only [vE o];congr 2;rw [Nat.add_sub_cancel_left];refine J g ?_;rfl
|some b=>
refine ae (d b rfl) λt r=>?_;have v:(l.drop b).take (z+1-b)=(l.drop b).take (z-b)++[l[z]]:=by rw [Nat.succ_sub t,List.take_add_one];congr 1;rw [ne,m_ t,cH q];rfl
induction o:ca l[z]with|true=>
have c:jH l[z]=false:=by simp [jH,o]
refine(?_:(swEnd (Y l) (forIn (List.range' (z+1) m) ((none,y.push (b,z),none):SwSt) (swBody (Y l) (l.length+1))).run).map _=_);rw [rZ l m (z+1) (y.push (b,z)) none ((qv z m).trans u) (by simp;exact w) (λO e=>C e)];refine J g ?_;simp only [Array.toList_push,List.map_append,List.map_cons,List.map_nil,List.append_assoc,List.cons_append,List.nil_append];refine J (qt (by simp [c])) (J (nb (by simp [c])) ?_);refine J (xj o) (J (gX _) ?_);rfl|false=>
have c:jH l[z]=true:=by simp [jH,o]
refine(?_:(swEnd (Y l) (forIn (List.range' (z+1) m) ((none,y,some b):SwSt) (swBody (Y l) (l.length+1))).run).map _=_);rw [rZ l m (z+1) y (some b) ((qv z m).trans u) (bX w) (λi e=>by obtain rfl:=ag e;exact⟨bX t,r⟩)];refine J g ?_;dsimp only;rw [qu c,nc c];refine J v ?_;simp
theorem RH l:Txt.words (Y l)=(cn l).map Y:=by
 have z:PySem.wordsOf (Y l)=(cn l).map Y:=by unfold PySem.wordsOf;rw [sw_eq,jy];have:=rZ l l.length 0 #[] none (by lia) (by simp) (λO e=>C e);simp only [List.drop_zero,Array.toList_empty,List.map_nil,List.nil_append]at this;refine J (aN this) ?_;rw [di];exact qs λp O=>mH l p.1 p.2
 unfold Txt.words;split;. rename_i h;refine J (aN z) ?_;unfold PySem.wordsOf;rw [ez]at h;refine J h ?_;simp only [List.map_cons,List.map_nil];exact J (sub_whole _) rfl
 . exact z
theorem ky:StrLaws.At (Y l) (Y [c]) (Y l).length i↔l[i]?=some c:=by have:=subAt_one (Y l) c i;rw [rX]at this;exact this
theorem xE:∀{l:B},(∀i:Nat,l[i]?≠some c)->du c l=(l,[],[])|[],_=>rfl|x::l,h=>by rw [du];refine(if_neg (λe=>h 0 (by simp [e]))).trans (J (xE λi e=>h (i+1) (by simpa using e)) ?_);rfl
theorem xD:∀{l:B}{i:Nat},l[i]?=some c->(∀k,k<i->l[k]?≠some c)->du c l=(l.take i,[c],l.drop (i+1))|[],i,h,_=>C h|x::l,0,h,_=>by rw [du];exact(if_pos (by simpa using h)).trans rfl|x::l,i+1,h,z=>by rw [du];refine(if_neg (λe=>z 0 (gY (Nat.succ 0) i) (by simp [e]))).trans (J (xD (l:=l) (i:=i) (by simpa using h) λk y e=>z (k+1) (eA y) (by simpa using e)) ?_);rfl
theorem N2 c l:Txt.partition (Y l) (Y [c])=(Y (du c l).1,Y (du c l).2.1,Y (du c l).2.2):=by
 unfold Txt.partition;refine(occ_head (Y l) (Y [c]) 1 (aH _)).elim (λz=>?_) λz=>?_;. refine ae z λe h=>?_;refine J e (J (xE λi q=>h i (ky.mpr q)) ?_);rfl
 . refine bP z λi r e h y=>?_;refine J e (J (xD (ky.mp h) λk j q=>y k j (ky.mpr q)) ?_);dsimp only;refine J (mH _ _ _) (J (mH _ _ _) ?_);refine J (jy _) (J (jy _) ?_);simp only [Nat.sub_zero,List.drop_zero,List.length_singleton];congr 3;exact(jg (by simp))
theorem EF(h:∀i:Nat,l[i]?≠some c):fP c l=([],[],l)/\l.contains c=false:=by
 have z:c∉l:=λz=>by refine av (qw z) λi e=>?_;exact h i e
 constructor;. unfold fP;exact J (xE (l:=l.reverse) λi e=>z (by simpa using cq e)) rfl
 . simpa using z
theorem EE(h:l[i]?=some c)(j:∀k:Nat,i<k->l[k]?≠some c):fP c l=(l.take i,[c],l.drop (i+1))/\l.contains c=true:=by
 have z:i<l.length:=(bo.mp h).1;have u:l.length-(l.length-1-i)=i+1:=(aJ (λx=>l.length-x) ((Nat.sub_sub _ _ _).trans (aJ (λx=>l.length-x) (kq 1 i)))).trans (Nat.sub_sub_self z);constructor
 . unfold fP;(refine J (xD (c:=c) (l:=l.reverse) (i:=l.length-1-i) (by refine J (sx (au (le _ _) (Nat.sub_lt (Nat.zero_lt_of_lt z) Nat.one_pos))) ?_;exact J (Nat.sub_sub_self (Nat.le_sub_one_of_lt z)) h) (λk y q=>by rw [sx (bl y (ac (le (List.length l-1) i) (le (List.length l) 1)))]at q;exact j _ (Nat.lt_sub_iff_add_lt.mpr (J (kq i k) (Nat.lt_sub_iff_add_lt.mp y))) q)) ?_);dsimp only;refine J (if_neg (by simp)) (J List.take_reverse ?_);refine J List.drop_reverse (J (sw _) ?_);refine J (sw _) ?_;congr 2;. congr 1;exact(Nat.sub_add_eq _ _ _).trans (aJ (λx=>x-1) u)
   . congr 2
 . simpa using cq h
theorem Qk c l:Txt.rpartition (Y l) (Y [c])=(Y (fP c l).1,Y (fP c l).2.1,Y (fP c l).2.2):=by
 unfold Txt.rpartition;refine(last_spec (Y l) (Y [c])).elim (λz=>?_) λz=>?_;. refine ae z λe h=>?_;refine J e (J ((EF λi q=>h i (ky.mpr q)).1) ?_);rfl
 . refine gn z λi e h y=>?_;refine J e (J ((EE (ky.mp h) λk j q=>y k j (ky.mpr q)).1) ?_);dsimp only;refine J (mH _ _ _) (J (mH _ _ _) ?_);refine J (jy _) (J (jy _) ?_);simp only [Nat.sub_zero,List.drop_zero,List.length_singleton];congr 3;exact(jg (by simp))
theorem OY c l:Txt.rfind (Y l) (Y [c])=lt c l:=by
 unfold Txt.rfind lt;refine(last_spec (Y l) (Y [c])).elim (λz=>?_) λz=>?_;. obtain⟨e,h⟩:=z;refine J e (J (EF λi q=>h i (ky.mpr q)).2 ?_);rfl
 . obtain⟨i,e,h,y⟩:=z;refine ae (EE (ky.mp h) λk j q=>y k j (ky.mpr q)) λu g=>?_;refine J e (J g ?_);refine J u ?_;have:=(bo.mp (ky.mp h)).1;simp only [if_true,List.length_take];congr 1;lia
theorem Ey a b x(l:B):dQ a b (x::l)=(if x=a then b else [x])++dQ a b l:=by simp [dQ]
theorem Mk a b:∀l,cm b (cc a l)=dQ a b l:=by intro q;induction q with|nil=>exact rfl|cons x l z=>
have z:=z;refine J (Ey _ _ _ _) ?_;rw [cc];by_cases h:x=a;. refine J (if_pos h) (J (if_pos h) ?_);induction e:cc a l using List.casesOn with|nil=>exact absurd e (Fn a l)|cons w y=>refine J z.symm (J e ?_);rfl
. refine J (if_neg h) (J (if_neg h) ?_);induction e:cc a l using List.casesOn with|nil=>exact absurd e (Fn a l)|cons w y=>refine J z.symm (J e ?_);induction y using List.casesOn<;>rfl
theorem EB a b l:Txt.replace (Y l) (Y [a]) (Y b)=Y (dQ a b l):=by refine J (show Txt.replace (Y l) (Y [a]) (Y b)=Str.join (Y b) (Txt.split (Y l) (Y [a]))from(replace_one (Y l) (Y b) a)) (J (Fu _ _) ?_);refine J (wJ _ _) (J (Mk _ _ _) ?_);rfl
theorem yJ:StrLaws.At (Y l) (Y [a,g]) (Y l).length i↔(l[i]?=some a/\l[i+1]?=some g):=by
 unfold StrLaws.At;rw [subAt_eq];refine J (rX _) (J (rX _) ?_);refine J (jy _) (J (jy _) ?_);simp only [List.length_cons,List.length_nil,beq_iff_eq];constructor;. rintro⟨y,z⟩;have j:=aJ (λq:List Nat=>q[0]?) z;have u:=aJ (λq:List Nat=>q[1]?) z;simp [List.getElem?_take,List.getElem?_drop]at j u;exact⟨j,u⟩
 . rintro⟨y,z⟩;refine⟨((bo.mp z).1),?_⟩;obtain⟨w,o⟩:=bo.mp y;obtain⟨d,c⟩:=bo.mp z;refine J (dT w) (J (dT d) ?_);refine J o (J c ?_);rfl
theorem Pj{a z x}{b l:B}(h:¬(x=a/\l[0]?=some z)):gK a z b (x::l)=x::gK a z b l:=by induction l using List.casesOn with|nil=>rfl|cons y l=>rw [gK];exact(if_neg (by simpa using h))
theorem EA{a z}{b l:B}:∀d s,s+d<=l.length->(∀k,s<=k->k<s+d->¬(l[k]?=some a/\l[k+1]?=some z))->gK a z b (l.drop s)=(l.drop s).take d++gK a z b (l.drop (s+d)):=by intro j;induction j with|zero=>intro s O O;simp|succ d u=>
intro s h y;have q:s<l.length:=au (bw s d) h;rw [dT q,Pj];. rw [u (s+1) (by lia) λk g w=>y k (bC g) (by lia)];refine J List.take_succ_cons ?_;rw [show s+1+d=s+(d+1)by lia];rfl
. have:=y s (aH _) (eA (bw s d));rw [cH q]at this;simpa [ne]using this
theorem E3:∀z s f,s<=l.length->ChainG (Y l) (Y [a,y]) (Y l).length s z f->(∀k,f<=k->¬StrLaws.At (Y l) (Y [a,y]) (Y l).length k)->Str.join (Y b) (partsFrom (Y l) 2 s z)=Y (gK a y b (l.drop s))
|[],s,f,o,h,j=>by have e:f=s:=h;subst e;rw [(EA (a:=a) (z:=y) (b:=b) (l:=l) (l.length-f) f (by lia) λk g O q=>j k g (yJ.mpr q))];refine(?_:strSub (Y l) f (Y l).length=_);rw [mH,jy,show f+(l.length-f)=l.length by lia,qx];simp [gK]|c::r,s,f,o,h,j=>by
 refine kS h λg d m t=>?_;refine ae (yJ.mp d) λv w=>?_;have i:=(bo.mp w).1;have n:=E3 (b:=b) r (c+2) f (i) t j;refine go (partsFrom_ne (Y l) 2 (c+2) r) λp D e=>?_;have u:=EA (a:=a) (z:=y) (b:=b) (l:=l) (c-s) s (by lia) λk x C q=>m k x (by lia) (yJ.mpr q);refine J u (J (show s+(c-s)=c by lia) ?_);obtain⟨Z,Q⟩:=bo.mp v;obtain⟨U,G⟩:=bo.mp w;refine J (dT Z) (J (dT U) ?_);refine J Q (J G ?_);rw [gK,if_pos ⟨rfl,rfl⟩];have W:Str.join (Y b) (strSub (Y l) s c::partsFrom (Y l) 2 (c+2) r)=strSub (Y l) s c++Y b++Str.join (Y b) (partsFrom (Y l) 2 (c+2) r):=by exact J e rfl
 refine W.trans (J n ?_);rw [mH,vG,vG];simp
theorem OT a y b l:Txt.replace (Y l) (Y [a,y]) (Y b)=Y (gK a y b l):=by
 refine D (occ_tight (Y l) (Y [a,y]) (by rw [jy];simp)) λf h q=>?_;have z:=E3 (b:=b) _ 0 f (eT _) h q;rw [qy]at z;unfold Txt.replace;have j:((Y [a,y]).length==0)=false:=by rw [jy];rfl
 rw [j,Bool.false_and,lU];split;. rename_i u;rw [List.isEmpty_iff.mp u]at z;refine J (aN z) (?_:_=strSub (Y l) 0 (Y l).length);exact J (sub_whole _) rfl
 . rw [glued_eq_join,partsBetween_eq];exact z
end
noncomputable def aw.c(y:aw)(q:Addr)(o:Obj):aw:=λz=>if z=q then some o else y z
section
variable(z:Program)(w:World)(q:Addr)(y:Heap)
def kU(u:aw)(f:List Addr)(h:Heap)(a:Addr):V->Prop|.d g=>u a=none/\∃c n,h.get? a=some (fq c n)/\be z w q u f g c/\g.length<=2*ak|.e d=>u a=none/\(a==sysModules)=false/\∃o j,h.get? a=some o/\o.IsDictOf (eQ z w) j/\dX d j/\d.length<=2*ak|.i=>True|_=>False
structure aF(g:aw)(u:List Addr)(f:af)(h:Heap):Prop where
b:∀a o,g a=some o->h.get? a=some o
j:∀a o,y.get? a=some o->g a=some o
d:u.length=f.length
l:u.Nodup
e:∀a∈u,∃o,h.get? a=some o
k:∀(i:Nat)(a:Addr)(c:V),u[i]?=some a->f[i]?=some c->kU z w q g u h a c
structure cp(t:aw)(u:List Addr)(g:af)(h:Heap)(v:aw)(x:List Addr)(f:af)(Q:Heap):Prop where
d:t.a v
b:u<+:x
r:u.length=g.length
s:∀a∈u,∃o,h.get? a=some o
l:∀(i:Nat)(a:Addr),x[i]?=some a->u.length<=i->h.get? a=none
k:∀(a:Addr)(o:Obj),h.get? a=some o->(∀(i:Nat)(c:V),u[i]?=some a->g[i]?=some c->c=V.i)->Q.get? a=some o
n:∀i:Nat,g[i]?=some V.i->f[i]?=some V.i
m:∀a o,v a=some o->t a=some o\/h.get? a=none\/a∈u
structure sV(j:aw)(u:List Addr)(L:Addr)(g:List Str)(o:ao)(h:Heap):Prop where
b:o.length=g.length
c:∃m,h.Ns L m/\∀(i:Nat)(x:Str)(v:V),g[i]?=some x->o[i]?=some (some v)->∃f,m x=some f/\bs z w q j u v f
a:L∉u
d:j L=none
end
section
variable{f:Addr}{u:aw}{h g:Heap}
theorem aw.a.i(u:aw):u.a u:=λO O z=>z
theorem aw.a.j(x:u.a z)(y:z.a w):u.a w:=λq o m=>y q o (x q o m)
theorem aF.L(q:aF z w f y u i n h):u h.objs.size=none:=by induction c:u h.objs.size with|none=>rfl|some o=>exact absurd (Heap.lt_size (q.b _ _ c)) (Nat.lt_irrefl _)
theorem aw.e(j:u z=none):u.a (u.c z o):=λw m y=>by
 by_cases q:w=z;. subst q;exact C (j.symm.trans y)
 . exact(if_neg q).trans y
theorem aw.d:u.c z o z=some o:=if_pos rfl
theorem aw.b(y:z≠q):u.c q o z=u z:=if_neg y
theorem cp.j(y:aF q w f o u c t h):cp u c t h u c t h:=⟨aw.a.i u,dt,y.d,y.e,λi a z v=>absurd (bo.mp z).1 (lf.mpr v),λO O z O=>z,λO z=>z,λO O z=>.inl z⟩
theorem cp.e(x:cp u G σ h L w Q t)(y:cp L w Q t a1 a2 a0 g):cp u G σ h a1 a2 a0 g:=by
 have R:=x.r;have V:∀a o,h.get? a=some o->a∉G->t.get? a=some o:=λa o z q=>x.k a o z λi c Z O=>absurd (cq Z) q;have M:∀a,a∉G->t.get? a=none->h.get? a=none:=λa q z=>by induction K:h.get? a with|none=>rfl|some o=>exact C (z.symm.trans (V a o K q))
 refine⟨x.d.j y.d,x.b.trans y.b,x.r,x.s,λi a z v=>?_,λa o z q=>?_,λi z=>y.n i (x.n i z),λa o z=>?_⟩
 . by_cases Y:w.length<=i;. have P:=y.l i a z Y;refine M a (λW=>?_) P;refine av (x.b) λD B=>?_;subst B;refine av (y.s a (iK _ W)) λo U=>?_;exact C (P.symm.trans U)
   . refine x.l i a ?_ v;refine av (y.b) λD E=>?_;subst E;replace z:=(iI (gA Y)).symm.trans z;exact z
 . refine y.k a o (x.k a o z q) λi c Z U=>?_;by_cases v:G.length<=i;. have:=x.l i a Z v;exact C (this.symm.trans z)
   . have v:=gA v;clear y;refine av (x.b) λD I=>?_;subst I;replace Z:=(iI v).symm.trans Z;have N:∃F,σ[i]?=some F:=⟨_,cH (R▸v)⟩;refine av N λF T=>?_;have:=q i F Z T;subst this;have:=x.n i T;replace U:=this.symm.trans U;exact J (ag U) rfl
 . rcases y.m a o z with z|z|z;. exact x.m a o z
   . by_cases W:a∈G;. exact .inr (.inr W)
     . exact .inr (.inl (M a W z))
   . obtain⟨i,v,rfl⟩:=sy z;by_cases Y:G.length<=i;. exact .inr (.inl (x.l i _ (cH v) Y))
     . refine .inr (.inr ?_);refine av (x.b) λD S=>?_;subst S;exact J (sz (gA Y)) (oC _)
theorem kU.z(e:u.a v)(q:l<+:s)(k:u a=none->v a=none)(b:∀o,h.get? a=some o->g.get? a=some o)(x:kU y w f u l h a c):kU y w f v s g a c:=by induction c using V.casesOn with|d Y=>refine kT x λj Z n m p t=>?_;exact⟨k j,Z,n,b _ m,p.L e q,t⟩|e d=>refine qg x λj m o r p t=>?_;exact⟨k j,m,o,r,b _ p,t⟩|i=>trivial|_=>exact x.elim
theorem kU.ai(x:kU y w f u v h a c)(m:c≠.i):∃o,h.get? a=some o:=by induction c using V.casesOn with|d k=>refine kT x λp b n q j t=>?_;exact⟨_,q⟩|e d=>refine qg x λp q o r j t=>?_;exact⟨_,j⟩|i=>exact absurd rfl m|_=>exact x.elim
theorem aF.t(y:aF q w f n u φ σ h)(s:∀a o,h.get? a=some o->g.get? a=some o):aF q w f n u φ σ g/\cp u φ σ h u φ σ g:=⟨⟨λa o z=>s a o (y.b a o z),y.j,y.d,y.l,λa J=>(y.e a J).imp λo z=>s a o z,λi a c U D=>(y.k i a c U D).z (aw.a.i _) dt (λC=>C) (s a)⟩,⟨aw.a.i _,dt,y.d,y.e,λi a z F=>absurd (bo.mp z).1 (lf.mpr F),λa o z Y=>s a o z,λY z=>z,λY Y z=>.inl z⟩⟩
theorem aF.x(i:aF z w f y u q c h)o:aF z w f y u q c (h.push o)/\cp u q c h u q c (h.push o):=i.t λn n s=>gZ o s
theorem gc(h:Heap):h.get? h.objs.size=none:=yl (aH _)
theorem aF.Z(q:aF z w f y u c s h)(i:a∈c):a<h.objs.size:=by refine av (q.e a i) λo n=>?_;exact Heap.lt_size n
theorem aF.O(q:aF s w f a0 u φ σ h)(a1:o.isFreed=false):aF s w f a0 (u.c h.objs.size o) φ σ (h.push o)/\cp u φ σ h (u.c h.objs.size o) φ σ (h.push o):=by
 have U:=q.L;have Y:∀a y,h.get? a=some y->(h.push o).get? a=some y:=λa y z=>gZ o z;refine⟨⟨λa y z=>?_,λa y z=>aw.e U a y (q.j a y z),q.d,q.l,λa n=>(q.e a n).imp λy z=>Y a y z,λi a c D C=>?_⟩,⟨aw.e U,dt,q.d,q.e,λi a z F=>absurd (bo.mp z).1 (lf.mpr F),λa y z M=>Y a y z,λM z=>z,λa y z=>?_⟩⟩
 . unfold aw.c at z;by_cases n:a=h.objs.size;. rw [if_pos n]at z;refine J (ag z).symm (J n ?_);exact gj h a1
   . rw [if_neg n]at z;exact Y a y (q.b a y z)
 . exact(q.k i a c D C).z (aw.e U) dt (λT=>by exact(aw.b (iJ (q.Z (cq D)))).trans T) (Y a)
 . by_cases n:a=h.objs.size;. exact .inr (.inl (by exact J n (gc h)))
   . rw [aw.b n]at z;exact .inl z
theorem xo{l:List Addr}(h:l.Nodup):∀{i j:Nat}{a:Addr},l[i]?=some a->l[j]?=some a->i=j:=by induction l with|nil=>intro i j a e;exact C e|cons x l w=>intro i j a z y;have q:=(hX.mp h).1;induction i using Nat.casesOn with
|zero=>induction j using Nat.casesOn with|zero=>rfl|succ j=>simp at z y;subst z;exact absurd (cq y) q
|succ i=>induction j using Nat.casesOn with|zero=>simp at z y;subst y;exact absurd (cq z) q|succ j=>simp at z y;exact J (w ((hX.mp h).2) z y) rfl
theorem aF.G(a0:aF a2 w f a4 u φ σ h)(a3:φ[i]?=some a)(hc:σ[i]?=some c)(s:c≠.i)(hs:∀z o,z≠a->h.get? z=some o->g.get? z=some o)(a5:u a=none)(a1:kU a2 w f u φ g a a6)(a7:a6≠.i):aF a2 w f a4 u φ (σ.set i a6) g/\cp u φ σ h u φ (σ.set i a6) g:=by
 have Y:∀U,φ[U]?=some a->U=i:=λU M=>by exact xo a0.l M a3
 refine⟨⟨λz D y=>?_,a0.j,by simp [a0.d],a0.l,λz n=>?_,λU z B T V=>?_⟩,⟨aw.a.i _,dt,a0.d,a0.e,λi a y a3=>absurd (bo.mp y).1 (lf.mpr a3),λz D y q=>?_,λU y=>?_,λE E y=>.inl y⟩⟩
 . have n:z≠a:=λF=>by clear Y a1 hs a3;subst F;exact C (a5.symm.trans y)
   exact hs z D n (a0.b z D y)
 . refine av (a0.e z n) λD y=>?_;by_cases n:z=a;. exact J n (a1.ai a7)
   . exact⟨D,hs z D n y⟩
 . by_cases n:z=a;. clear a5 hs;subst n;obtain rfl:=Y U T;refine J (ag ((kr (by exact J (aN a0.d) ((bo.mp a3).1))).symm.trans V)).symm ?_;exact a1
   . have M:U≠i:=λF=>by clear V Y hc;subst F;replace T:=a3.symm.trans T;obtain rfl:=ag T;exact n rfl
     exact(a0.k U z B T ((lg (fv M)).symm.trans V)).z (aw.a.i _) dt (λF=>F) (λD y=>hs z D n y)
 . have n:z≠a:=λF=>by clear Y a1 a5 hs;subst F;exact s (q i c a3 hc)
   exact hs z D n y
 . have M:U≠i:=λF=>by clear Y a3;subst F;replace y:=hc.symm.trans y;clear hc;obtain rfl:=ag y;exact s rfl
   refine(lg (fv M)).trans ?_;exact y
theorem iu{m}(z:h.Ns L m)(y:∀o,h.get? L=some o->g.get? L=some o):g.Ns L m:=by refine bB z λo q j w r=>?_;exact(dK o q j ⟨y o w,r⟩)
theorem sV.e{l}(x:sV p w f u n L l Q h)(y:cp u n σ h s G a0 g):sV p w f s G L l Q g:=by
 refine D (x.c) λm Z U=>?_;have W:∃o,h.get? L=some o:=by refine bB Z λo B E F O=>?_;exact⟨o,F⟩
 have t:h.get? L≠none:=by refine av W λo j=>?_;exact J j (λq=>C q.symm)
 refine⟨x.b,⟨m,iu Z λo j=>y.k L o j λi I k O=>absurd (cq k) x.a,λi z v k M=>?_⟩,λP=>?_,?_⟩;. refine D (U i z v k M) λT j r=>?_;exact⟨T,j,r.F y.d y.b⟩
 . obtain⟨i,R,j⟩:=sy P;by_cases Y:n.length<=i;. exact t (y.l i L (by refine(cH R).trans ?_;exact J j rfl) Y)
   . refine av (y.b) λr V=>?_;subst V;rw [sz (gA Y)]at j;exact x.a (j▸oC _)
 . induction j:s L with|none=>rfl|some o=>
refine(y.m L o j).elim (λq=>?_) λK=>K.elim (λq=>?_) λq=>?_;. exact C (x.d.symm.trans q)
. exact absurd q t
. exact absurd q x.a
end
structure oS(z:Around)(y:Nat):Prop where
a:z.handled=none
b:z.depth+y<=900
c:z.units+10*y<=9000
section
variable{q:Program}{w:World}{j:Addr}{z:af}{g:Value->Shared->Prop}{s:Shared}
variable(q w j y)in def fu(m:aw)(p:List Addr)(z:af)(s:Shared)(v:V)(u:af)(Q:Value->Shared->Prop):Prop:=∀f o d c t,aF q w j y o d u c->cp m p z s.heap o d u c->bs q w j o d v f->Q f {s with heap:=c,toks:=t}
variable(q w j y)in def su(m:aw)(p:List Addr)(z:af)(s:Shared)(b:Bool)(u:af)(Q:Bool->Shared->Prop):Prop:=∀d c o t,aF q w j y d c u o->cp m p z s.heap d c u o->Q b {s with heap:=o,toks:=t}
theorem fu.ai{v}{Q}(d:aF q w j y u o z s.heap)(k:fu q w j y u o z s v z Q)(r:bs q w j u o v c)f:Q c {s with toks:=f}:=k c u o s.heap f d (cp.j d) r
theorem su.f{Q}(u:aF q w j y o d z s.heap)(k:su q w j y o d z s b z Q)c:Q b {s with toks:=c}:=k o d s.heap c u (cp.j u)
theorem qS{n}(e:z[n]?=some c):z.getD n .i=c:=by refine J hY ?_;exact J e rfl
theorem py(u:aF q w j o d y z s.heap){n}(r:bs q w j d y (.c n) m):∃a c,m=.ref a/\y[n]?=some a/\z[n]?=some c/\kU q w j d y s.heap a c:=by
 refine D r λa p e=>?_;subst p;have f:n<z.length:=by exact J (aN u.d) ((bo.mp e).1)
 exact(ax a (z[n]) ⟨rfl,e,cH f,u.k n a _ e (cH f)⟩)
theorem hi(f:aF q w j u m p z s.heap)(r:bs q w j m p a t)(d:aO z a=.f x):a=.f x/\eK x t:=by induction a using V.casesOn with|c n=>refine bg (py f r) λe c v k=>?_;refine J v (bk k λi o b=>?_);simp only [aO]at d;rw [qS o]at d;clear o;subst d;exact b.elim|f y=>simp only [aO]at d;cases d;exact⟨rfl,r⟩|_=>simp [aO]at d
theorem ib(p:aF q w j t v k z s.heap)(r:bs q w j v k a i){o}(d:aO z a=.d o):∃y u n,i=.ref y/\s.heap.get? y=some (fq u n)/\be q w j v k o u/\o.length<=2*ak:=by induction a using V.casesOn with|c n=>refine bg (py p r) λy c l x=>?_;refine J l (bk x λY b h=>?_);simp only [aO]at d;rw [qS b]at d;clear b;subst d;refine se h λO u Z f m=>?_;exact(dK y u Z ⟨rfl,f,m⟩)|d Q=>simp only [aO]at d;cases d;refine hg r λy u n e f m=>?_;exact(dK y u n ⟨e,p.b _ _ f,m⟩)|_=>simp [aO]at d
theorem od(f:aF q w j m p t z s.heap)(r:bs q w j p t a k){o}(d:aO z a=.g o):∃y u n,k=.ref y/\s.heap.get? y=some (kQ u n)/\be q w j p t o u/\o.length<=2*ak:=by induction a using V.casesOn with|c n=>refine bg (py f r) λy c b i=>?_;subst b;refine bk i λZ v l=>?_;simp only [aO]at d;rw [qS v]at d;clear v;subst d;exact l.elim|g Y=>simp only [aO]at d;cases d;refine hg r λy u n e x h=>?_;exact(dK y u n ⟨e,f.b _ _ x,h⟩)|_=>simp [aO]at d
theorem pA(k:aF q w j b l x z s.heap)(r:bs q w j l x a h)(f:aO z a=.e d):∃u y,h=.ref u/\s.heap.DictOf (eQ q w) u y/\dX d y/\(u==sysModules)=false/\d.length<=2*ak:=by induction a using V.casesOn with|c n=>refine bg (py k r) λu c Z Y=>?_;refine J Z (bk Y λD i Q=>?_);simp only [aO]at f;rw [qS i]at f;clear i;subst f;refine qg Q λO m o y p U=>?_;refine bk U λt v G=>?_;exact(ax u y ⟨rfl,jh.mpr ⟨o,p,t⟩,v,m,G⟩)|e C=>simp only [aO]at f;cases f;refine hg r λu o y e p W=>?_;refine bk W λt v m=>?_;exact(ax u y ⟨e,jh.mpr ⟨o,k.b _ _ p,t⟩,v,m⟩)|_=>simp [aO]at f
theorem f_{t}:bs q w j y u (.b i) (.int i t):=⟨_,rfl⟩
theorem hH{t}(y:l.length<=ak):bs q w j u o (.a l) (.str (Y l) t):=⟨_,rfl,y⟩
theorem gp:bs q w j y u (.h b) (.bool b):=rfl
theorem nA:bs q w j y u .j .none:=rfl
theorem q'{v}(h:eK a v):bs q w j y u (.f a) v:=h
theorem wF{y}{n}(e:h.get? y=some (fq u n)):IsL h y u.toArray n:=e
theorem eh{y}{u}{n}{h:Heap}(e:h.get? y=some (fq u n)):h.IsList y u.toArray:=(wF e).isList
theorem fu.aR(m:aF q w j y d c z s.heap){u}{n}{Q}(r:be q w j d c u o)(p:u.length<=2*ak)(k:fu q w j y d c z s (.d u) z Q)f:Q (.ref s.heap.objs.size) {s with heap:=s.heap.push (fq o n),toks:=f}:=by refine ae (m.O (o:=fq o n) rfl) λt X=>?_;exact k _ _ _ _ f t X (dK _ o n ⟨rfl,aw.d,r.L X.d X.b,p⟩)
theorem fu.a0(m:aF q w j y d c z s.heap){u}{n}{Q}(r:be q w j d c u o)(p:u.length<=2*ak)(k:fu q w j y d c z s (.g u) z Q)f:Q (.ref s.heap.objs.size) {s with heap:=s.heap.push (kQ o n),toks:=f}:=by refine ae (m.O (o:=kQ o n) rfl) λt X=>?_;exact k _ _ _ _ f t X (dK _ o n ⟨rfl,aw.d,r.L X.d X.b,p⟩)
theorem uR(h:cw i=true):i.natAbs<2^200:=by simpa [cw]using h
theorem rv{n}(h:n<ak):n<=sizeLine:=by exact J gB (ac (bC h) (by decide))
theorem Dd(h:cw i=true):Builtin.Int.intBits i<=201:=by
 unfold Builtin.Int.intBits;split;. exact by decide
 . rename_i y;have y:i.natAbs≠0:=by intro e;apply y;simp;lia
   exact bl ((Nat.log2_lt y).mpr (uR h)) (by decide)
theorem Nk(y:cw a=true)(u:cw b=true):IntMulOk a b:=by
 have o:=Dd y;have d:=Dd u;unfold IntMulOk;have:Builtin.Int.intTooBig ((Builtin.Int.intBits a)+Builtin.Int.intBits b)=false:=by unfold Builtin.Int.intTooBig bitsLine;exact e' (by lia)
 simp [this]
theorem OB(u:cw b=true):Builtin.divisionGoesByPylong a b=false:=by
 refine PyProof.noPylong_of_log2 ?_;by_cases y:b.natAbs=0;. refine J y ?_;decide+kernel
 . exact bl ((Nat.log2_lt y).mpr (uR u)) (by decide)
theorem tv{v}(h:eK (.b i) v):∃t,v=.int i t:=h
theorem Ay{v}(h:eK (.a l) v):∃t,v=.str (Y l) t/\l.length<=ak:=h
theorem Bn{f}(e:jA f a b=some r):∃x y,a=.b x/\b=.b y/\f x y=some r:=by refine aP e λx u e=>?_;refine aP e λy o e=>?_;exact(ax x y ⟨V.m u,V.m o,e⟩)
theorem Gk{f}(e:Bp f a b=some r):∃x y,a=.a x/\b=.a y/\f x y=some r:=by refine aP e λx u e=>?_;refine aP e λy o e=>?_;exact(ax x y ⟨V.o u,V.o o,e⟩)
theorem Gj{f}(e:Bo f a b=some r):∃x y,a=.d x/\b=.d y/\f x y=some r:=by refine aP e λx u e=>?_;refine aP e λy o e=>?_;exact(ax x y ⟨V.t u,V.t o,e⟩)
theorem Gi(e:jA (λx y=>some (.b (x+y))) a b=some r):∃x y,a=.b x/\b=.b y/\r=.b (x+y):=bP (Bn e) λx y u o d=>(ax x y ⟨u,o,(ag d).symm⟩)
theorem Gh(e:yK a b=some r):(∃x y,a=.b x/\b=.b y/\r=.b (x+y))\/(∃x y,a=.a x/\b=.a y/\(if x.length+y.length<ak then some (V.a (x++y))else none)=some r)\/(∃x y,a=.d x/\b=.d y/\(if x.length+y.length<ak then some (V.d (x++y))else none)=some r):=by induction a using V.casesOn with
|d=>exact .inr (.inr (Gj e))|f x=>induction x with|a=>exact .inr (.inl (Gk e))|_=>exact .inl (Gi e)
|_=>exact C e
theorem oW{f}{a b v}(e:jA f (aO z a) (aO z b)=some v)(o:aF q w j d c m z s.heap)(p:bs q w j c m a r)(k:bs q w j c m b i):∃x y t u,r=.int x t/\i=.int y u/\f x y=some v:=by refine bP (Bn e) λx y l n e=>?_;refine av (tv (hi o p l).2) λt h=>?_;refine av (tv (hi o k n).2) λu Z=>?_;exact(nO x y t u ⟨h,Z,e⟩)
theorem Hq{a b v}{Q}(e:cZ z G a b=some v)(o:aF q w j p l h z s.heap)(c:bs q w j l h a L)(f:bs q w j l h b a0)(k:fu q w j p l h z s v z Q):wpAny (model q w) a1 (binaryOp G L a0) Q g s:=by
 induction G with|Add=>
rcases Gh e with⟨x,y,r,i,rfl⟩|⟨x,y,r,i,Z⟩|⟨x,y,r,i,Z⟩;. refine av (tv (hi o c r).2) λt M=>?_;refine J M (av (tv (hi o f i).2) λu T=>?_);exact J T (PyProof.Rows.add_int (k.ai o f_ _))
. refine D (Ay (hi o c r).2) λt R V=>?_;refine J R (D (Ay (hi o f i).2) λu K B=>?_);refine J K (eI Z λd U=>?_);obtain rfl:=ag U;have E:(Y x++Y y)=Y (x++y):=by refine(?_:Str.append _ _=_);unfold Str.append Y;simp
  refine SBL.add (λt' k'=>?_) (by refine(?_:x.toArray.size+y.toArray.size<=_);simpa using rv d);exact J E (λO=>k.ai o (hH (by simp only [List.length_append];exact bC d)) _)
. refine bB (ib o c r) λa2 vs n I N=>?_;refine J I (bk N λS W V=>?_);refine bB (ib o f i) λa3 us m X A=>?_;refine J X (bk A λH F B=>?_);refine eI Z λd U=>?_;obtain rfl:=ag U;refine P.add_list (wF S) (wF H) ?_ ?_;. have:=k.aR o (n:=0) (W.Q F) (by simp only [List.length_append];exact ac (bC d) (by decide)) s.toks;simpa using this
  . simp only [List.size_toArray];refine J W.K (J F.K ?_);exact rv d|Sub=>refine iq (oW e o c f) λx y t u ie kL=>?_;refine J ie (ae kL λkM e=>?_);refine J kM ?_;obtain rfl:=ag e;exact PyProof.Rows.sub_int (k.ai o f_ _)|Mult=>refine iq (oW e o c f) λx y t u kN kO=>?_;refine J kN (ae kO λny e=>?_);refine J ny (eI e λd e=>?_);obtain rfl:=ag e;exact PyProof.Rows.mul_int (k.ai o f_ _) (Nk (kp.mp d).1 (kp.mp d).2)|FloorDiv=>refine iq (oW e o c f) λx y t u nz nA=>?_;refine J nz (ae nA λnB e=>?_);refine J nB (eI e λd e=>?_);obtain rfl:=ag e;exact PyProof.Rows.floordiv_int (by simpa using(kp.mp d).1) (k.ai o f_ _) (.inl (OB (kp.mp d).2))|Mod=>refine iq (oW e o c f) λx y t u nC nD=>?_;refine J nC (ae nD λnE e=>?_);refine J nE (eI e λd e=>?_);obtain rfl:=ag e;exact PyProof.Rows.mod_int' (by simpa using(kp.mp d).1) (k.ai o f_ _)|Pow=>refine iq (oW e o c f) λx y t u nF nG=>?_;refine J nF (ae nG λnH e=>?_);refine J nH (eI e λd e=>?_);obtain rfl:=ag e;simp only [Bool.and_eq_true,decide_eq_true_eq]at d;refine ae d λnI h2=>?_;refine ae nI λnN h1=>?_;subst nN;exact PyProof.Rows.pow_int h1 (by refine J (show Builtin.Int.intBits 256=9 by decide+kernel) ?_;lia) (k.ai o f_ _)|BitXor=>refine iq (oW e o c f) λx y t u nJ nL=>?_;refine J nJ (ae nL λnM e=>?_);refine J nM ?_;obtain rfl:=ag e;exact PyProof.Rows.xor_int (k.ai o f_ _)|_=>exact C e
end
section
variable{o:Addr}{g:aw}{z:Around}
theorem Hn a b:(Y a==Y b)=(a==b):=by refine J (propext lc) (J (propext ez) ?_);exact J (propext ez) ke
theorem be.O(h:be y w o g q [x] j):∃v,j=[v]/\bs y w o g q x v:=by refine bg h λv f u d=>?_;refine J u (ae d λh c=>?_);exact J c ⟨v,rfl,h⟩
theorem be.R(h:be q w o g j [x,y] d):∃v u,d=[v,u]/\bs q w o g j x v/\bs q w o g j y u:=by refine bg h λv r c f=>?_;refine J c (ae f λh m=>?_);refine D (be.O m) λu p t=>?_;exact J p (ax v u ⟨rfl,h,t⟩)
theorem zh(e:iS a b=some r)(y:eK a j)(q:eK b w):RcAt z s j w r/\EqAt z s j w r/\RcNeAt z s j w (!r):=by
 induction a<;>induction b<;>first|exact C e|refine J (ag e).symm ?_
 . cases y;cases q;exact⟨.none_none,.same _,.none_none⟩
 . cases y;refine av q λu d=>?_;(refine J d ?_);exact⟨.none_int _ _,.none_int _ _,.none_int _ _⟩
 . cases y;refine D q λu c O=>?_;(refine J c ?_);exact⟨.none_str _ _,.none_str _ _,.none_str _ _⟩
 . cases y;cases q;exact⟨.bool_bool _ _,.bool_bool _ _,.bool_bool _ _⟩
 . refine av y λt f=>?_;(refine J f ?_);cases q;exact⟨.int_none _ _,.int_none _ _,.int_none _ _⟩
 . refine av y λt m=>?_;(refine J m ?_);refine av q λu p=>?_;(refine J p ?_);exact⟨.int_int _ _ _ _,.int_int _ _ _ _,.int_int _ _ _ _⟩
 . refine av y λt v=>?_;(refine J v ?_);refine D q λu k O=>?_;(refine J k ?_);exact⟨.int_str _ _ _ _,.int_str _ _ _ _,.int_str _ _ _ _⟩
 . refine D y λt i O=>?_;(refine J i ?_);cases q;exact⟨.str_none _ _,.str_none _ _,.str_none _ _⟩
 . refine D y λt l O=>?_;(refine J l ?_);refine av q λu n=>?_;(refine J n ?_);exact⟨.str_int _ _ _ _,.str_int _ _ _ _,.str_int _ _ _ _⟩
 . refine D y λt x O=>?_;(refine J x ?_);refine D q λu h O=>?_;(refine J h ?_);exact J (Hn _ _).symm ⟨.str_str _ _ _ _,.str_str _ _ _ _,.str_str _ _ _ _⟩
theorem I_{v}(e:iS a b=some r)(y:eK a v)(q:eK b v):r=true:=by
 induction a<;>induction b<;>first|exact C e|refine(ag e).symm.trans ?_
 . rfl
 . cases y;refine av q λu e=>?_;cases e
 . cases y;refine D q λu e O=>?_;cases e
 . cases y;cases q;exact ji _
 . cases q;refine av y λu e=>?_;cases e
 . refine av y λt w=>?_;subst w;refine av q λu e=>?_;cases e;exact ji _
 . refine av y λu d=>?_;subst d;refine D q λc j O=>?_;cases j
 . cases q;refine D y λu e O=>?_;cases e
 . refine D y λu f O=>?_;subst f;refine av q λc j=>?_;cases j
 . refine D y λt m O=>?_;subst m;refine D q λu e O=>?_;injection e with e;exact J (ke.mp e) (ji _)
inductive ln(n:Nat):V->V->Bool->Prop|a{j u:aD}{r:Bool}(_:iS j u=some r):ln n (.f j) (.f u) r|d(y:List V):ln n .j (.g y) false|e(q:List V):ln n (.g q) .j false|b{q y:List V}{r:Bool}(_:q.length=y.length)(_:h' (ep n) q y=some r):ln n (.d q) (.d y) r|c{q y:List V}(_:¬q.length=y.length):ln n (.d q) (.d y) false|f{q y:List V}{r:Bool}(_:q.length=y.length)(_:h' (ep n) q y=some r):ln n (.g q) (.g y) r
theorem IQ{n}{y q}(e:(if y.length=q.length then h' (ep n) y q else some false)=some r):ln n (.d y) (.d q) r:=by
 by_cases h:y.length=q.length;. rw [if_pos h]at e;exact .b h e
 . rw [if_neg h]at e;exact J (ag e).symm (.c h)
theorem IS{n}{y q}(e:(if y.length=q.length then h' (ep n) y q else none)=some r):ln n (.g y) (.g q) r:=by
 by_cases h:y.length=q.length;. rw [if_pos h]at e;exact .f h e
 . rw [if_neg h]at e;exact C e
theorem zi{n}(e:ep (n+1) x y=some r):ln n x y r:=by induction x using V.casesOn with
|f a=>induction y using V.casesOn with
 |f b=>exact .a e|g q=>induction a with|c=>exact J (ag e).symm (.d q)|_=>exact C e
 |_=>induction a<;>exact C e
|g j=>induction y using V.casesOn with
 |f b=>induction b with|c=>exact J (ag e).symm (.e j)|_=>exact C e
 |g q=>exact IS e|_=>exact C e
|d j=>induction y using V.casesOn with|d q=>exact IQ e|_=>exact C e
|_=>exact C e
noncomputable def pB(f:V->V->Option Bool)(q u:List V)(j:Nat):Bool:=match q[j]?,u[j]? with|some x,some y=>(f x y).getD false|_,_=>false
theorem Gr{f}{q j}:h' f (x::q) (y::j)=(f x y).bind λa=>(h' f q j).map λb=>a&&b:=rfl
theorem nB{f}:∀{q w:List V}{b:Bool},h' f q w=some b->q.length=w.length/\b=(List.range q.length).all (pB f q w)/\∀j x y,q[j]?=some x->w[j]?=some y->f x y=some (pB f q w j)
|[],[],b,e=>by exact J (ag e).symm ⟨rfl,rfl,λj x y h=>by simp at h⟩|[],_::_,b,e=>C e|_::_,[],b,e=>C e|x::q,y::w,b,e=>by
 refine D (qq.mp (Gr.symm.trans e)) λa p t=>?_;refine D (fI.mp t) λc r k=>?_;refine J k.symm (bk (nB r) λi l n=>?_);refine⟨by simp [i],?_,λj u v d m=>?_⟩
 . refine J lV (J List.range_succ_eq_map ?_);refine J jj (J List.all_map ?_);have s:pB f (x::q) (y::w) 0=a:=by simp [pB,p]
   refine J s (J l ?_);rfl
 . induction j using Nat.casesOn with|zero=>simp at d m;refine J d.symm (J m.symm ?_);simp [pB,p]|succ j=>simp at d m;exact n j u v d m
theorem be.X{j}(h:be y w o g f j u)(d:i<u.length):∃x,j[i]?=some x/\bs y w o g f x u[i]:=by
 have c:i<j.length:=by exact J (aN h.K) d
 refine D (h.P (cH c)) λv q r=>?_;rw [cH d]at q;exact J (ag q) ⟨j[i],cH c,r⟩
theorem ig{y}{q}{n}{h:Heap}(e:h.get? y=some (kQ q n)):h.IsTuple y q.toArray:=⟨_,e,rfl,n,rfl⟩
theorem Aw{n}(t:∀(x y:V)(v:Value)(r:Bool),ep n x y=some r->bs q w o g c x v->bs q w o g c y v->r=true){f m}(e:h' (ep n) f m=some r)(k:be q w o g c f b)(i:be q w o g c m b):r=true:=by
 refine bk (nB e) λl s a=>?_;refine s.trans (J (propext cs) ?_);intro j u;have u:j<f.length:=by simpa using u
 have d:j<m.length:=l▸u;refine D (k.P (cH u)) λv h Z=>?_;refine D (i.P (cH d)) λQ p Y=>?_;rw [h]at p;obtain rfl:=ag p;exact t _ _ _ _ (a j _ _ (cH u) (cH d)) Z Y
theorem xa{p t:Nat}{q j}(w:g a=some q)(u:g a=some j)(d:(match q.data with|.seq y _=>y.toList|_=>[])=c)(f:(match j.data with|.seq y _=>y.toList|_=>[])=m):c=m:=by rw [w]at u;obtain rfl:=ag u;exact d.symm.trans f
theorem IR n:∀x y v r,ep n x y=some r->bs m w o g L x v->bs m w o g L y v->r=true:=by induction n with|zero=>intro _ _ _ _ q;exact C q|succ n Y=>intro x y v r q j u;have E:=zi q;clear q;induction E with|a q=>exact I_ q j u|d B=>subst j;refine bB u λs h n q O=>?_;cases q|e I=>subst u;refine bB j λs h n q O=>?_;cases q|b Z q=>refine bB j λs h Q W D=>?_;subst W;refine bk D λp t O=>?_;refine hg u λJ U G k i F=>?_;refine ae F λl O=>?_;cases k;obtain rfl:=xa (p:=0) (t:=0) p i rfl rfl;exact Aw Y q t l|c Z=>refine bB j λs h Q M P=>?_;subst M;refine bk P λp t O=>?_;refine hg u λJ U G k i T=>?_;refine ae T λl O=>?_;cases k;obtain rfl:=xa (p:=0) (t:=0) p i rfl rfl;exact absurd (t.K.symm.trans l.K) Z|f Z q=>refine bB j λs h Q R V=>?_;subst R;refine bk V λp t O=>?_;refine hg u λJ U G k i K=>?_;refine ae K λl O=>?_;cases k;obtain rfl:=xa (p:=0) (t:=0) p i rfl rfl;exact Aw Y q t l
theorem pa{n}(b:∀(z:Around)(x y:V)(f m:Value)(r:Bool),ep n x y=some r->bs q w o g u x f->bs q w o g u y m->z.units+n<9900->EqAt z s f m r){d c}(e:h' (ep n) d c=some r)(i:be q w o g u d p)(l:be q w o g u c t)(Q:z.units+(n+1)<9900):∀j(v:j<p.toArray.size)(k:j<t.toArray.size),EqAt z.in1 s p.toArray[j] t.toArray[j] (pB (ep n) d c j):=by intro j v k;refine D (i.X v) λx a h=>?_;refine D (l.X k) λy Z Y=>?_;simp only [List.getElem_toArray];exact b z.in1 x y _ _ _ ((nB e).2.2 j x y a Z) h Y (by refine J (Around.in1_units _) ?_;lia)
theorem uk(m:aF p w o L g φ σ s.heap)n:∀z x y Q G r,ep n x y=some r->bs p w o g φ x Q->bs p w o g φ y G->z.units+n<9900->EqAt z s Q G r:=by induction n with|zero=>intro _ _ _ _ _ _ j;exact C j|succ n M=>
intro z x y Q G r T k i P;have Y:z.units<cLine:=au (bw _ _) P;have q:Q=G->EqAt z s Q G r:=λh=>by clear M;subst h;exact J (IR _ _ _ _ _ T k i) (.same _)
induction zi T with|a j=>exact(zh j k i).2.1|d ys=>refine J k (bB i λl F n B E=>?_);(refine J B ?_);refine ae E λu O=>?_;exact .none_tuple (ig (m.b _ _ u)) Y|e xs=>refine J i (bB k λl F n I N=>?_);(refine J I ?_);refine ae N λu O=>?_;exact .tuple_none (ig (m.b _ _ u)) Y|b U j=>
refine bB k λl F R S X=>?_;subst S;refine bk X λu t O=>?_;refine bB i λW V K A H=>?_;subst A;refine bk H λD Z O=>?_;by_cases v:l=W;. exact q (aJ _ v)
. refine .of_refs v (J (nB j).2.1 ?_);simpa [t.K]using(RcAt.lists (A:=z) (eh (m.b _ _ u)) (eh (m.b _ _ D)) (by simp [t.K,Z.K,U]) Y (pa M j t Z P))|c U=>
refine bB k λl F R s9 td=>?_;subst s9;refine bk td λu t O=>?_;refine bB i λW V K te tf=>?_;subst te;refine bk tf λD Z O=>?_;by_cases v:l=W;. exact q (aJ _ v)
. exact .of_refs v (RcAt.lists_lengths (eh (m.b _ _ u)) (eh (m.b _ _ D)) (by simp [t.K,Z.K,U]) Y)|f U j=>
refine bB k λl F R th tl=>?_;subst th;refine bk tl λu t O=>?_;refine bB i λW V K tm tp=>?_;subst tm;refine bk tp λD Z O=>?_;by_cases v:l=W;. exact q (aJ _ v)
. refine .of_refs v (J (nB j).2.1 ?_);simpa [t.K,Z.K,U]using(RcAt.tuples (A:=z) (ig (m.b _ _ u)) (ig (m.b _ _ D)) Y (pa M j t Z P))
theorem Co(q:aF k w o a0 g φ L s.heap){n}(j:ep (n+1) (aO L a1) (aO L a2)=some r)(h:bs k w o g φ a1 a3)(Q:bs k w o g φ a2 a4)(G:z.units+(n+1)<9900):RcAt z s a3 a4 r/\RcNeAt z s a3 a4 (!r):=by have v:z.units<cLine:=au (bw _ _) G;generalize Z:aO L a1=x at j;generalize Y:aO L a2=y at j;have E:=zi j;clear j;induction E with|a j=>refine ae (hi q h Z) λK U=>?_;refine J K (ae (hi q Q Y) λB M=>?_);refine J B ?_;have:=zh (z:=z) (s:=s) j U M;exact⟨this.1,this.2.2⟩|d=>refine ae (hi q h Z) λI U=>?_;refine J I (bB (od q Q Y) λC F m N S=>?_);refine J N (bk S λu M O=>?_);clear h;cases U;exact⟨.none_tuple (ig u) v,.none_tuple (ig u) v⟩|e=>refine ae (hi q Q Y) λX U=>?_;refine J X (bB (od q h Z) λC F m A H=>?_);refine J A (bk H λu M O=>?_);clear Q;cases U;exact⟨.tuple_none (ig u) v,.tuple_none (ig u) v⟩|b i j=>refine bB (ib q h Z) λP T R Ck Cm=>?_;refine J Ck (bk Cm λl p O=>?_);refine bB (ib q Q Y) λC F V Cn YA=>?_;refine J Cn (bk YA λu t O=>?_);refine J (nB j).2.1 ?_;have W:=RcAt.lists (A:=z) (eh l) (eh u) (by simp [p.K,t.K,i]) v (pa (uk q n) j p t G);have D:=RcNeAt.lists (A:=z) (eh l) (eh u) (by simp [p.K,t.K,i]) v (pa (uk q n) j p t G);simp only [List.size_toArray,p.K]at W D;exact⟨W,D⟩|c i=>refine bB (ib q h Z) λP T R a5 Cp=>?_;refine J a5 (bk Cp λl p O=>?_);refine bB (ib q Q Y) λC F V Cq Cr=>?_;refine J Cq (bk Cr λu t O=>?_);exact⟨RcAt.lists_lengths (eh l) (eh u) (by simp [p.K,t.K,i]) v,RcNeAt.lists_lengths (eh l) (eh u) (by simp [p.K,t.K,i]) v⟩|f i j=>refine bB (od q h Z) λP T R YB Cs=>?_;refine J YB (bk Cs λl p O=>?_);refine bB (od q Q Y) λC F V Ct Cu=>?_;refine J Ct (bk Cu λu t O=>?_);refine J (nB j).2.1 ?_;have W:=RcAt.tuples (A:=z) (ig l) (ig u) v (pa (uk q n) j p t G);have D:=RcNeAt.tuples (A:=z) (ig l) (ig u) v (pa (uk q n) j p t G);simp only [List.size_toArray,p.K,t.K,i,Nat.min_self,beq_self_eq_true,Bool.and_true]at W D;exact J i ⟨W,D⟩
end
theorem dX.f:∀{d:List (aD×aD)}{z:List (aD×Value)},dX d z->z.length=d.length:=by intro q;induction q with|nil=>intro O y;cases y;rfl|cons m d u=>intro z y;refine bg y λv l w o=>?_;(refine J w ?_);refine ae o λO c=>?_;simp [u c]
theorem dX.e:∀{d:List (aD×aD)}{z:List (aD×Value)}(k:aD),dX d z->(bD d k=none/\valueAt z k=none)\/∃a v,bD d k=some a/\valueAt z k=some v/\eK a v:=by intro w;induction w with|nil=>intro O k y;cases y;exact .inl ⟨rfl,rfl⟩|cons u d o=>
intro z k y;refine bg y λv l c m=>?_;refine J c (ae m λp t=>?_);by_cases q:u.1=k;. exact .inr (ax u.2 v ⟨by simp [bD,q],by simp [valueAt,q],p.1⟩)
. rw [show bD (u::d) k=bD d k by simp [bD,iB,q],show valueAt ((u.1,v)::l) k=valueAt l k by simp [valueAt,iB,q]];exact o k t
theorem dX.h k(q:dX d z):(valueAt z k).isSome=(bD d k).isSome:=by
 refine(q.e k).elim (λy=>?_) λy=>?_;. refine ae y λa b=>?_;refine J a (J b ?_);rfl
 . refine bP y λa v u w O=>?_;refine J u (J w ?_);rfl
theorem dX.j:∀{d q:List (aD×aD)}{y z:List (aD×Value)},dX d y->dX q z->dX (d++q) (y++z):=by intro w;induction w with|nil=>intro O O O u k;cases u;exact k|cons r d o=>intro q y z u k;refine bg u λv l c m=>?_;refine J c (ae m λp t=>?_);exact(ax v (l++z) ⟨rfl,p,o t k⟩)
theorem Rj{l}{k:aD}{v u:Value}(y:k∉l.map (λO=>O.1)):stored ((k,u)::l) k v=(k,v)::l:=by
 have:l.map (λz=>if z.1=k then(z.1,v)else z)=l:=by rw [qs (g:=id),List.map_id];intro x q;have:x.1≠k:=λe=>y (e▸List.mem_map_of_mem q);simp [this]
 simp [stored,this]
theorem Rk{l}{k z:aD}{v u:Value}(y:z≠k):stored ((z,u)::l) k v=(z,u)::stored l k v:=by unfold stored;simp only [List.any_cons,List.map_cons,y,decide_false,Bool.false_or,if_false];split<;>rfl
theorem dX.i:∀{d:List (aD×aD)}{z:List (aD×Value)}{k a:aD}{v:Value},(z.map (λO=>O.1)).Nodup->dX d z->eK a v->pJ k->dX (fh d k a) (stored z k v):=by intro p;induction p with|nil=>intro O k a v O o y q;cases o;exact(ax v [] ⟨by simp [stored],⟨y,q⟩,rfl⟩)|cons t d r=>
intro z k a v c o y q;refine bg o λu l b n=>?_;subst b;refine ae n λs m=>?_;simp only [List.map_cons,List.nodup_cons]at c;refine J oe ?_;by_cases w:t.1=k;. refine J (if_pos w) ?_;subst w;exact J (Rj c.1) (ax v l ⟨rfl,⟨y,q⟩,m⟩)
. refine J (if_neg w) (J (Rk w) ?_);exact(ax u _ ⟨rfl,s,r c.2 m y q⟩)
theorem IX d k a:(fh d k a).length<=d.length+1:=by induction d with|nil=>exact aH _|cons e d z=>
refine J oe ?_;split;. exact e_ _
. exact nf z
theorem Ca d k:(kw d k).length<=d.length:=by induction d with|nil=>exact aH _|cons e d z=>
refine J B_ ?_;split;. exact e_ _
. exact nf z
theorem dX.g:∀{d:List (aD×aD)}{z:List (aD×Value)}{k:aD},(z.map (λO=>O.1)).Nodup->dX d z->dX (kw d k) (without z k):=by intro m;induction m with|nil=>intro O k O w;cases w;rfl|cons y d p=>
intro z k o w;refine bg w λu l t r=>?_;subst t;refine ae r λv c=>?_;simp only [List.map_cons,List.nodup_cons]at o;refine J B_ ?_;by_cases q:y.1=k
. refine J (if_pos q) (J q.symm ?_);have:without ((y.1,u)::l) y.1=without l y.1:=by simp [without]
  refine J this (J (without_of_not_mem _ _ o.1) ?_);exact c
. refine J (if_neg q) ?_;have:without ((y.1,u)::l) k=(y.1,u)::without l k:=by simp [without,q]
  exact J this (ax u _ ⟨rfl,v,p o.2 c⟩)
theorem po{w}{v}(z:jD k=true)(h:eK k v):(eQ y w).is k v=true/\pJ k:=by induction k with|c=>exact am z|d=>exact am z|b i=>refine av h λt q=>?_;(refine J q ?_);exact⟨(ji i),trivial⟩|a l=>refine D h λt j u=>?_;(refine J j ?_);exact⟨(ji (Y l)),u⟩
section
variable{z:Program}{w:World}{y:Addr}{j:Value->Shared->Prop}
theorem mu{n}(h:n<=2*ak):(n:Int)<2^63:=by unfold ak at h;lia
theorem wT{v}{Q}(e:ev m v=some b)(o:aF z w y c p i m s.heap)(r:bs z w y p i v G)(k:su z w y c p i m s b m Q):wpAny (model z w) L (truthy G) Q j s:=by unfold ev at e;generalize d:aO m v=x at e;induction x using V.casesOn with
|f a=>refine ae (hi o r d) λU q=>?_;clear r d U;induction a with|c=>cases q;obtain rfl:=ag e;exact truthy_none (k.f o s.toks)|d=>cases q;exact J (ag e) (sv (k.f o s.toks))|b=>refine av q λt W=>?_;(refine J W ?_);obtain rfl:=ag e;exact PyProof.Rows.truthy_int (k.f o s.toks)|a l=>
 refine D q λt O f=>?_;(refine J O ?_);obtain rfl:=ag e;have u:(Y l).length=l.length:=by simp [Y,Str.length]
 refine SBL.truthy (by refine J u ?_;unfold ak at f;lia) ?_;have:(((Y l).length:Int)!=0)=!l.isEmpty:=by refine J u ?_;clear u k f;induction l using List.casesOn<;>simp<;>lia
 exact J this (k.f o _)
|d h=>
refine bB (ib o r d) λP Z n F M=>?_;refine J F (bk M λg q f=>?_);obtain rfl:=ag e;refine wpAny_truthy_list (eh g) (by simp [q.K];exact mu f) ?_;have:(!Z.toArray.isEmpty)=!h.isEmpty:=by have:=q.K;clear k f d;clear q;induction h using List.casesOn<;>(clear g;induction Z using List.casesOn)<;>simp_all
exact J this (k.f o _)|_=>exact C e
end
def ml(v:Value):aD:=match v with|.none=>.c|.ellipsis=>.c|.notImplemented=>.c|.bool b=>.d b|.int i _=>.b i|.float ..=>.c|.str x _=>.a x.cps.toList|.bytes ..=>.c|.type _=>.c|.builtin _=>.c|.ref _=>.c
theorem Bk{v}(h:eK a v):ml v=a:=by induction a with|c=>cases h;rfl|d=>cases h;rfl|b=>refine av h λt z=>?_;(refine J z ?_);rfl|a=>refine D h λt y O=>?_;(refine J y ?_);refine(?_:aD.a (Y _).cps.toList=_);simp
section
variable{z:Program}{w:World}{j:Addr}{o:Value->Shared->Prop}
theorem Lh{y}:eD k (.f a::y)=(iS a k).bind λc=>(eD k y).map λb=>c||b:=rfl
theorem Li:∀{g:List V}{q:List Value}{b:Bool},eD k g=some b->be z w j O L g q->b=q.any (λy=>(iS (ml y) k).getD false)/\∀y∈q,∃a c,eK a y/\iS a k=some c/\(iS (ml y) k).getD false=c:=by intro p;induction p with|nil=>intro q b e h;obtain rfl:=ag e;exact J h ⟨rfl,λy u=>by cases u⟩|cons x g t=>intro q b e h;refine bg h λv r i l=>?_;refine J i (ae l λn s=>?_);induction x using V.casesOn with
|f a=>
refine D (qq.mp (Lh.symm.trans e)) λc d Z=>?_;refine D (fI.mp Z) λW Y Q=>?_;refine J Q.symm ?_;have f:eK a v:=n;refine ae (t Y s) λU G=>?_;have m:(iS (ml v) k).getD false=c:=by refine J (Bk f) (J d ?_);rfl
refine⟨by refine J List.any_cons (J m ?_);exact J U rfl,λy u=>?_⟩;refine dF u ?_ λu=>?_;. exact(ax a c ⟨f,d,m⟩)
. exact G y u|_=>exact C e
theorem Rs c:Y [c]=⟨#[c]⟩:=rfl
theorem Dc l c:(!(Builtin.Str.occurrences (Y l) (Y [c]) 0 (Y l).length 1).isEmpty)=l.contains c:=by refine J (Rs _) (J (StrLaws.found_one _ _) ?_);refine J (propext lc) ?_;simp
theorem Db(m:Bool){Q}(e:bp.z a (aO σ b)=some r)(p:aF z w j G a0 φ σ s.heap)(r1:bs z w j a0 φ a L)(r2:bs z w j a0 φ b a2)(a3:a1.units+20<9900)(k:fu z w j G a0 φ σ s (.h (if m then !r else r)) σ Q):wpAny (model z w) a1 (compareOp (if m then .NotIn else .In) L a2) Q o s:=by
 have f:∀{Y:List V}{Z:List Value},wC a Y=some r->be z w j a0 φ Y Z->r=Z.toArray.any (λy=>(iS (ml y) (ml L)).getD false)/\∀y,y∈Z.toArray->EqAt a1.in1 s y L ((iS (ml y) (ml L)).getD false):=by intro Y Z e h;induction a using V.casesOn with|f M=>have W:eK M L:=r1;refine ae (Li (k:=M) e h) λv i=>?_;refine J (Bk W) ⟨by refine J v ?_;simp,λy B=>?_⟩;refine bP (i y (by simpa using B)) λay c U T E=>?_;exact J E ((zh T U W).2.1)|_=>exact C e
 generalize d:aO σ b=y at e;induction y using V.casesOn with
|d Y=>
 refine bB (ib p r2 d) λR Z n I N=>?_;refine J I (bk N λg q O=>?_);refine ae (f e q) λv i=>?_;induction m;. exact in_listAt _ (eh g) i (by exact J (aN v) (k.ai p gp s.toks))
 . exact notIn_listAt _ (eh g) i (by exact J (aN v) (k.ai p gp s.toks))|g Y=>
 refine bB (od p r2 d) λR Z n S X=>?_;refine J S (bk X λg q O=>?_);refine ae (f e q) λv i=>?_;induction m;. exact in_tupleAt _ (ig g) i (by exact J (aN v) (k.ai p gp s.toks))
 . exact notIn_tupleAt _ (ig g) i (by exact J (aN v) (k.ai p gp s.toks))|e dd=>
 clear f;refine aP e λM U F=>?_;refine eI F λW A=>?_;clear e F;obtain rfl:=V.s U;obtain rfl:=ag A;refine bg (pA p r2 d) λR H co cC=>?_;refine J co (kS cC λg q K O=>?_);have:=po (y:=z) (w:=w) W r1;induction m;. exact wpAny_in_of this.1 K g.mapOf (by rw [q.h];exact k.ai p gp _)
 . exact wpAny_notIn_of this.1 K g.mapOf (by rw [q.h];exact k.ai p gp _)
|f x=>induction x with|a l=>
clear f;refine aP e λu U F=>?_;clear e;refine cb F λc T dq=>?_;subst dq;obtain rfl:=V.o U;obtain rfl:=fO T;refine ae (hi p r2 d) λdZ d6=>?_;subst dZ;refine D d6 λt eZ hl=>?_;subst eZ;refine D (r1) λu d7 O=>?_;subst d7;induction m;. refine P.in_str (J (Dc _ _) ?_);exact k.ai p gp s.toks
. refine P.notIn_str (J (Dc _ _) ?_);exact k.ai p gp s.toks|_=>exact C e
|_=>exact C e
theorem Aq{v}(h:bs z w j f m v y)(e:wG v=some r):(y==.none)=r:=by induction v using V.casesOn with
|f a=>induction a with|c=>refine J (ag e).symm ?_;cases h;rfl|d=>refine J (ag e).symm ?_;cases h;rfl|b=>refine J (ag e).symm (av h λt q=>?_);(refine J q ?_);rfl|a=>refine J (ag e).symm (D h λt u O=>?_);(refine J u ?_);rfl
|i=>exact C e|_=>refine J (ag e).symm (av h λa h=>?_);(first|((refine ae h λg O=>?_;refine J g ?_);rfl)|((refine bg h λO O d O=>?_;refine J d ?_);rfl)|((refine iq h λO O O O c O=>?_;refine J c ?_);rfl))
theorem uM{f:Int->Int->Bool}(e:(a.l.bind λx=>b.l.map λy=>f x y)=some r)(q:bs z w j g d a c)(m:bs z w j g d b p):∃x y t u,c=.int x t/\p=.int y u/\r=f x y:=by refine aP e λx v e=>?_;refine cb e λy k i=>?_;refine J i.symm ?_;obtain rfl:=V.m v;obtain rfl:=V.m k;refine av (q) λt l=>?_;subst l;refine av (m) λu n=>?_;subst n;exact(nO x y t u ⟨rfl,rfl,rfl⟩)
theorem HX{Q}(e:bp v G a b=some r)(q:aF z w j m i l v s.heap)(g:bs z w j i l a L)(d:bs z w j i l b n)(h:p.units+20<9900)(k:fu z w j m i l v s (.h r) v Q):wpAny (model z w) p (compareOp G L n) Q o s:=by have Y:p.units+(5+1)<9900:=bl (ng (gY (Nat.succ (5+1)) 14) p.units) h;induction G with|Eq=>exact(Co (z:=p) q e g d Y).1 z w o Q (k.ai q gp s.toks)|NotEq=>refine cb e λc f U=>?_;subst U;exact(Co (z:=p) q f g d Y).2 z w o Q (k.ai q gp s.toks)|Lt=>refine iq (uM e g d) λx y t u W D=>?_;refine J W (ae D λC F=>?_);refine J C ?_;subst F;exact PyProof.Rows.lt_int (k.ai q gp s.toks)|LtE=>refine iq (uM e g d) λx y t u M P=>?_;refine J M (ae P λT R=>?_);refine J T ?_;subst R;exact PyProof.Rows.le_int (k.ai q gp s.toks)|Gt=>refine iq (uM e g d) λx y t u K B=>?_;refine J K (ae B λE I=>?_);refine J E ?_;subst I;exact PyProof.Rows.gt_int (k.ai q gp s.toks)|GtE=>refine iq (uM e g d) λx y t u N S=>?_;refine J N (ae S λX A=>?_);refine J X ?_;subst A;exact PyProof.Rows.ge_int (k.ai q gp s.toks)|Is=>refine aP e λO Z f=>?_;obtain rfl:=V.y Z;obtain rfl:n=.none:=d;refine is_none_gen (J (Aq g f) ?_);exact k.ai q gp s.toks|IsNot=>refine aP e λO Z f=>?_;refine cb f λc H tp=>?_;subst tp;obtain rfl:=V.y Z;obtain rfl:n=.none:=d;refine isnot_none_gen (J (Aq g H) ?_);exact k.ai q gp s.toks|In=>exact Db false e q g d h k|NotIn=>refine cb e λc f tq=>?_;subst tq;exact Db true f q g d h k
end
theorem FD z o i:∃y,subscripted z false o i=operate y (getItem o i):=by induction z using Expr.casesOn with|Slice a b c p=>induction c using Option.casesOn<;>exact⟨_,rfl⟩|_=>exact⟨_,rfl⟩
theorem Dw{u:Type}{z}{x:u}(h:bM z k=some x):∃j,seqIndex? k z.length=some j/\z[j]?=some x/\j<z.length/\-(z.length:Int)<=k/\k<z.length:=by
 unfold bM at h;split at h;. rename_i y;have g:=(bo.mp h).1;exact⟨k.toNat,StrLaws.seqIndex_nonneg y (by lia),h,g,by lia,by lia⟩
 . rename_i y;split at h;. rename_i q;exact⟨(k+z.length).toNat,StrLaws.seqIndex_neg (Int.lt_of_not_ge y) q,h,((bo.mp h).1),q,lW (Int.lt_of_not_ge y) (fw (List.length z))⟩
   . exact C h
section
variable{z:Program}{w:World}{f:Addr}{m:Value->Shared->Prop}
theorem L4{G r}{a i v}{Q}(e:a_ σ a i=some v)(b:aF z w f L a0 φ σ s.heap)(r1:bs z w f a0 φ a a1)(r2:bs z w f a0 φ i a2)(k:fu z w f L a0 φ σ s v σ Q):wpAny (model z w) a7 (subscriptTail G r a1 a2) Q m s:=by refine av (FD r a1 a2) λa3 P=>?_;unfold a_ at e;generalize d:aO σ a=y at e;induction y using V.casesOn with
|d A=>
refine aP e λj h o=>?_;clear e;obtain rfl:=V.m h;refine av (r2) λt z1=>?_;subst z1;refine bB (ib b r1 d) λR K n z2 z3=>?_;subst z2;refine bk z3 λg q U=>?_;have W:=mu U;have B:=eh g;refine tail_any B.typeIs slot_list_getitem.lookup ?_ P;unfold bM at o;split at o;. rename_i H;refine D (q.P o) λE I Z=>?_;have a4:=(bo.mp o).1;exact wpAny_getItem_list B H (by lia) (by simpa using I) (k.ai b Z s.toks)
. rename_i H;refine eI o λh o=>?_;refine D (q.P o) λE I Z=>?_;have F:K.toArray.size=A.length:=by simp [q.K]
  exact wpAny_getItem_list_neg B (by lia) (by exact J F h) (by lia) (by refine J F ?_;simpa using I) (k.ai b Z s.toks)|g A=>refine aP e λj h o=>?_;clear e;obtain rfl:=V.m h;refine av (r2) λt z4=>?_;subst z4;refine bB (od b r1 d) λR K n z5 z6=>?_;subst z5;refine bk z6 λg q U=>?_;have W:=mu U;obtain⟨p,N,S,p3,p4,p5⟩:=Dw o;refine D (q.P S) λE o Z=>?_;have hT:IsTup s.heap R K.toArray:=⟨_,g,rfl,n,rfl⟩;refine tail_any hT.typeIs slot_tuple_getitem.lookup ?_ P;exact getItem_tuple hT (by lia) (by lia) (by simpa [q.K]using N) (by simpa using o) (k.ai b Z s.toks)
|f x=>induction x with|a l=>
refine ae (hi b r1 d) λz7 q=>?_;refine J z7 ?_;clear r1;refine D q λt z8 U=>?_;subst z8;refine aP e λj h o=>?_;clear e;obtain rfl:=V.m h;refine av (r2) λu z9=>?_;subst z9;refine cb o λc Z co=>?_;subst co;obtain⟨p,N,S,p3,p4,p5⟩:=Dw Z;have M:(Y l).length=l.length:=by simp [Y,Str.length]
have W:(l.length:Int)<2^63:=mu (ac U (by decide));refine tail_any (jk s (Y l) t) slot_str_getitem.lookup ?_ P;refine PyProof.Rows.getItem_str (c:=c) ?_ ?_ (k.ai b (hH (l:=[c]) (by simp [ak])) _);. exact J (propext ym) ⟨e' (by lia),e' (by lia)⟩
. refine J M (J N ?_);simpa [Y]using S|_=>exact C e
|e dd=>
refine aP e λka h o=>?_;refine eI o λhk Z=>?_;clear e o;obtain rfl:=V.s h;refine cb Z λx o cC=>?_;subst cC;refine bg (pA b r1 d) λR a5 dq dZ=>?_;subst dq;refine kS dZ λg q a6 O=>?_;have ik:=po (y:=z) (w:=w) hk r2;refine(q.e ka).elim (λX=>?_) λX=>?_;. refine ae X λT O=>?_;replace o:=T.symm.trans o;exact C o
. refine bP X λy E T f2 f3=>?_;replace o:=T.symm.trans o;clear T;obtain rfl:=ag o;exact tail_any g.typeIs slot_dict_getitem.lookup (wpAny_getItem_of ik.1 g.mapOf f2 (k.ai b (q' f3) _)) P|_=>exact C e
theorem GL{g:aw}{l}(e:hz l=some o):(l=[]/\o=none)\/∃i,l=[.b i]/\o=some i:=by induction l using List.casesOn with|nil=>exact J (ag e) (.inl ⟨rfl,rfl⟩)|cons x l=>refine aP e λv y q=>?_;refine cb q λi j u=>?_;refine J u.symm ?_;obtain rfl:=V.m j;exact .inr ⟨i,fO y,rfl⟩
theorem Fz(x:Str)y q:Builtin.Str.strSliceIndices y q 1 x.length=(List.range (q.elim x.length (h_ x.length)-y.elim 0 (h_ x.length))).map (λO=>y.elim 0 (h_ x.length)+O):=by
 have e:Builtin.Str.strSliceIndices y q 1 x.length=sliceRange (y.elim 0 (h_ x.length):Nat) (q.elim x.length (h_ x.length):Nat) 1:=by
  unfold Builtin.Str.strSliceIndices;have j:(1>0):=by decide
  simp only [j,if_true];congr 1;. induction y with|none=>rfl|some i=>simp only [Option.elim];exact(clipAt_cast x.length i).symm
  . induction q with|none=>rfl|some i=>simp only [Option.elim];exact(clipAt_cast x.length i).symm
 exact e.trans (sliceRange_one _ _)
theorem Rl(x:Str)y q:(Builtin.Str.strSliceIndices y q 1 x.length).filterMap (x.cps[.]?)=ce x.cps.toList y q:=by
 refine J (Fz _ _ _) (J (pick_run _ _ _) ?_);have:x.cps.toList.length=x.length:=by simp [Str.length]
 exact J this rfl
theorem Ei{q:Type}(y:List q)j u:(ce y j u).length<=y.length:=by unfold ce;simp only [List.length_take,List.length_drop];exact ac (Nat.min_le_right _ _) (le _ _)
theorem P_{g:Type}{y:List g}{q j}(h:(ce y q j).length=y.length):ce y q j=y:=by
 unfold ce at h⊢;simp only [List.length_take,List.length_drop]at h;dsimp only;by_cases u:y.length=0;. rw [List.length_eq_zero_iff.mp u];simp
 . have o:q.elim 0 (h_ y.length)=0:=Nat.eq_zero_of_not_pos λd=>Nat.not_le_of_lt (Nat.sub_lt (sA u) d) (ac (de h.symm) (Nat.min_le_right _ _));rw [o]at h⊢;exact qy.trans (jg (ac (de (aN h)) (sB (Option.elim j (List.length y) (Mp.h_ (List.length y))-0) (List.length y-0))))
theorem Qa{G i}{a v}{a3 a4}{Q}(e:iV L a a3 a4=some v)(a1:aF z w f h a2 φ L s.heap)(r1:bs z w f a2 φ a a5)(a0:hz a3=some (d.map (λO=>O.1)))(a6:hz a4=some (u.map (λO=>O.1)))(k:fu z w f h a2 φ L s v L Q):wpAny (model z w) a8 (subscriptTail G i a5 (.ref s.heap.objs.size)) Q m {s with heap:=s.heap.push {cls:=.type "slice",data:=.fields #[partValue d,partValue u,.none]}}:=by
 refine av (FD i a5 (.ref s.heap.objs.size)) λH P=>?_;refine ae (a1.t (g:=s.heap.push {cls:=.type "slice",data:=.fields #[partValue d,partValue u,.none]}) (λa o e=>gZ _ e)) λR X=>?_;have U:fu z w f h a2 φ L {s with heap:=s.heap.push {cls:=.type "slice",data:=.fields #[partValue d,partValue u,.none]}} v L Q:=λrv F' aq h' tk a b c=>k rv F' aq h' tk a (X.e b) c;have K:(s.heap.push {cls:=.type "slice",data:=.fields #[partValue d,partValue u,.none]}).get? s.heap.objs.size=some {cls:=.type "slice",data:=.fields #[partValue d,partValue u,.none]}:=gj _ rfl;have e:(match aO L a with|.f x=>(match x with|.c=>none|.d _=>none|.b _=>none|.a s=>some (V.a (ce s (d.map (λO=>O.1)) (u.map (λO=>O.1)))))|.d j=>some (V.d (ce j (d.map (λO=>O.1)) (u.map (λO=>O.1))))|.g _=>none|.e _=>none|.k _=>none|.c _=>none|.i=>none)=some v:=by unfold iV at e;replace e:=a0▸e;replace e:=a6▸e;exact e
 generalize N:aO L a=y at e;induction y using V.casesOn with
|d j=>
 obtain rfl:=ag e;clear k e;refine bB (ib a1 r1 N) λad vs n eZ d7=>?_;subst eZ;refine bk d7 λg q a0=>?_;have S:=(eh g).push {cls:=.type "slice",data:=.fields #[partValue d,partValue u,.none]};refine tail_any (s:={s with heap:=_}) S.typeIs slot_list_getitem.lookup ?_ P;have l:∀p:Option (Int×Tok),IsPart (partValue p) (p.map (λO=>O.1)):=λp=>by induction p with|none=>exact IsPart.none|some p=>exact IsPart.int _ _
 refine wpAny_getItem_list_slice (st:=none) (s:={s with heap:=_}) S ⟨_,K,rfl,rfl⟩ (l d) (l u) (l none) (by simp) ?_ ?_
 . refine J (slicePick_plain _ _ _) ?_;have a7:vs.toArray.size=j.length:=by simp [q.K]
   refine J a7 (U.aR R (n:=0) ?_ ?_ s.toks);. exact(q.W _).Z _
   . exact ac (Ei j _ _) a0
 . simp only [List.size_toArray,q.K];exact J gB (ac a0 (by decide))
|f x=>induction x with|a j=>
obtain rfl:=ag e;clear k e;refine ae (hi a1 r1 N) λfc q=>?_;refine J fc ?_;clear r1;refine D q λt gu a0=>?_;subst gu;refine tail_any (s:={s with heap:=_}) (jk _ (Y j) t) PySem.F.slot_str_getitem.lookup ?_ P;refine wpAny_getItem_str_slice (l:=d) (u:=u) (st:=none) (s:={s with heap:=_}) ⟨_,K,rfl,rfl⟩ rfl ?_;have Z:=Ei j (d.map (λO=>O.1)) (u.map (λO=>O.1));have T:=Rl (Y j) (d.map (λO=>O.1)) (u.map (λO=>O.1));have B:(Y j).cps.toList=j:=by simp [Y]
replace T:=B▸T;have W:∀A U,Q (.str (Y (ce j (d.map (λO=>O.1)) (u.map (λO=>O.1)))) A) {s with heap:=s.heap.push {cls:=.type "slice",data:=.fields #[partValue d,partValue u,.none]},toks:=U}:=λA F=>U.ai R (hH (ac Z a0)) F;have E:(slicePicked (Y j) d u none)=Builtin.Str.strSliceIndices (d.map (λO=>O.1)) (u.map (λO=>O.1)) 1 (Y j).length:=rfl;have I:(if((((none:Option (Int×Tok)).map (λO=>O.1)).getD 1==1)&&(slicePicked (Y j) d u none).length==(Y j).length)=true then Y j else⟨((slicePicked (Y j) d u none).filterMap ((Y j).cps[.]?)).toArray⟩)=Y (ce j (d.map (λO=>O.1)) (u.map (λO=>O.1))):=by
 split
 . rename_i r;refine J (propext ke) ?_;have r:=(kp.mp r).2;rw [ez]at r;replace r:=E▸r;have P:(Y j).length=j.length:=by simp [Y,Str.length]
   replace r:=(Fz _ _ _)▸r;replace r:=(bU _)▸r;replace r:=iC▸r;replace r:=P▸r;have hb:(u.map (λO=>O.1)).elim j.length (h_ j.length)<=j.length:=by clear E W T Z U K X R a6;induction u with|none=>exact aH _|some p=>exact Int.toNat_le.mpr (Int.max_le.mpr ⟨fw _,Int.min_le_right _ _⟩)
   have M:(ce j (d.map (λO=>O.1)) (u.map (λO=>O.1))).length=j.length:=by unfold ce;simp only [List.length_take,List.length_drop];exact(lk (Nat.sub_le_sub_right hb _)).trans r
   exact(P_ M).symm
 . refine J E (J T ?_);rfl
refine post_val_or_str (J I ?_)
exact ⟨by have:(Y (ce j (d.map (λO=>O.1)) (u.map (λO=>O.1)))).length=(ce j (d.map (λO=>O.1)) (u.map (λO=>O.1))).length:=by simp [Y,Str.length]
          refine J this (J gB ?_);exact ac Z (ac a0 (by decide)),W⟩|_=>exact C e
|_=>exact C e
end
section
variable{z:Program}{w:World}{q:Addr}{u:Value->Shared->Prop}{s:Shared}
variable(z w q y)in def FL(c:aw)(f:List Addr)(m:af)(s:Shared)(j:af)(Q:Unit->Shared->Prop):Prop:=∀o d g p,aF z w q y o d j g->cp c f m s.heap o d j g->Q () {s with heap:=g,toks:=p}
theorem ua(m:aF z w q d j g p s.heap){n}{o}(r:bs z w q j g (.c n) t)(e:p[n]?=some (.d o)):∃a y k,t=.ref a/\g[n]?=some a/\j a=none/\s.heap.get? a=some (fq y k)/\be z w q j g o y/\o.length<=2*ak:=by refine bg (py m r) λa c v b=>?_;refine J v (bk b λi f l=>?_);rw [e]at f;obtain rfl:=ag f;refine se l λx y k h Z=>?_;exact(dK a y k ⟨rfl,i,x,h,Z⟩)
theorem Bg(p:aF z w q j g f t s.heap){n}(r:bs z w q g f (.c n) v)(e:t[n]?=some (.e d)):∃a o y,v=.ref a/\f[n]?=some a/\g a=none/\(a==sysModules)=false/\s.heap.get? a=some o/\o.IsDictOf (eQ z w) y/\dX d y/\d.length<=2*ak:=by refine bg (py p r) λa c k b=>?_;refine J k (bk b λi m l=>?_);rw [e]at m;obtain rfl:=ag m;obtain⟨x,h,o,y,Z⟩:=l;exact(dK a o y ⟨rfl,i,x,h,Z⟩)
theorem SameBut.a(x:Heap.SameBut y h j):∀b o,b≠y->h.get? b=some o->j.get? b=some o:=λb o g e=>(x.2 b g).trans e
theorem aF.K(a4:aF z w q y g o i s.heap){n a0}{a5 h}(a6:o[n]?=some a)(hc:i[n]?=some (.d a5))(a1:g a=none)(a7:s.heap.get? a=some (fq a2 a0))f(a8:f a2.toArray=a3.toArray)(a9:be z w q g o h a3)(b0:h.length<=2*ak):aF z w q y g o (i.set n (.d h)) (s.heap.update a (Obj.mapSeq f))/\cp g o i s.heap g o (i.set n (.d h)) (s.heap.update a (Obj.mapSeq f)):=by have c:=(show PySem.IsL s.heap a a2.toArray a0 from a7).update f;rw [a8]at c;exact a4.G a6 hc (λY=>by cases Y) (SameBut.a (Heap.SameBut.update ..)) a1 ⟨a1,a3,_,c,a9,b0⟩ (λY=>by cases Y)
theorem N8{v}(h:eK a v):pJ a:=by induction a with|a l=>refine D h λt O y=>?_;exact y|_=>trivial
theorem PY{a i v}{Q}(e:eY σ a i v=some a0)(G:aF z w q b L φ σ s.heap)(r1:bs z w q L φ a a3)(r2:bs z w q L φ i a2)(r3:bs z w q L φ v a1)
(k:FL z w q b L φ σ s a0 Q):wpAny (model z w) a5 (setItem a3 a2 a1) Q u s:=by refine aP e λn B r=>?_;refine aP r λy Z g=>?_;clear e r;obtain rfl:=V.v B;induction y using V.casesOn with|d E=>
refine aP g λj Y c=>?_;refine eI c λI f=>?_;clear g c;obtain rfl:=ag f;obtain rfl:=V.m Y;refine bB (ua G r1 Z) λN T m S A=>?_;refine J S (hQ A λr g c f p=>?_);refine av (r2) λt H=>?_;refine J H ?_;have hz:T.toArray.size=E.length:=by simp [f.K]
have a4:=mu p;refine ki_setAt (n:=m) c I.1 (by lia) (by lia) (ae (G.K r Z g c (λx=>x.setIfInBounds j.toNat a1) (a3:=T.set j.toNat a1) (by simp) (be.ad r3 f j.toNat) (by simpa using p)) λU X=>?_);exact k _ _ _ s.toks U X|e d=>
refine aP g λW Y c=>?_;refine eI c λF f=>?_;refine cb f λx h3 p=>?_;clear g c f;obtain rfl:=p;obtain rfl:=V.s Y;obtain rfl:=V.s h3;refine ch F λF l=>?_;refine bB (Bg G r1 Z) λN o h z8 z9=>?_;refine J z8 (vP z9 λr g c f p co=>?_);refine ae co λR e7=>?_;have K:eK W a2:=r2;have M:h.length<=sizeLine:=by refine J R.f (J gB ?_);exact ac e7 (by decide)
refine wpAny_setItem_pairs (po (y:=z) (w:=w) F K).1 (jh.mpr ⟨o,f,p⟩) (λh' hd hs=>?_) M;refine D (jh.mp hd) λo' g' d'=>?_;have P:(h.map (λO=>O.1)).Nodup:=by refine gN p λO O O O O cC=>?_;refine ae cC λO x=>?_;exact x
refine ae (G.G r Z (λe=>by cases e) (SameBut.a hs) g (a6:=.e (fh d W x)) ⟨g,c,o',_,g',d',R.i P r3 (N8 K),ac (IX d W x) (bl (bt l) (by decide))⟩ (λe=>by cases e)) λU X=>?_;exact k _ _ _ _ U X|_=>exact C g
theorem M_{a v}{Q}(e:pG a=some v)(d:aF z w q y j g o s.heap)(c:bs z w q j g a f)(k:fu z w q y j g o s v o Q):wpAny (model z w) p (unaryOp .USub f) Q u s:=by induction a using V.casesOn with
|f x=>induction x with|b=>obtain rfl:=ag e;refine av (c) λt m=>?_;exact J m (PyProof.Rows.neg_int (k.ai d f_ _))|_=>exact C e
|_=>exact C e
end
section
open PySem.NumText
theorem fE l:(Y l).length=l.length:=by simp [Y,Str.length]
theorem Gq{l:B}(h:l.all wE=true):AllDigits l:=λc y=>by have:=cs.mp h c y;unfold wE at this;simpa using this
theorem E0{n}(h:uY l=some n):AllDigits l/\l≠[]/\l.length<=600/\digitsVal l=n:=by
 unfold uY at h;split at h;. exact C h
 . rename_i y;refine J (ag h).symm ?_;simp only [not_or]at y;refine⟨Gq (by simpa using y.2.1),y.1,g' y.right.right,?_⟩;unfold digitsVal;congr 1;funext a c;lia
set_option tactic.hygienic true in theorem N0(h:ls l=some i):PySem.intText? (Y l)=some i/\(Y l).length<=640:=by
 unfold ls at h;split at h
 . rename_i l;refine D (fI.mp h) λn q c=>?_;refine J c.symm (kS (E0 q) λu g d f=>?_);subst f;have y:(Y (45::l)).length<=640:=by refine J (fE _) ?_;simp;exact ac d (by decide)
   exact⟨intText_neg (cs:=l) (by simp [Y]) u g (bl y (by decide)),y⟩
 . refine D (fI.mp h) λn q m=>?_;refine J m.symm (kS (E0 q) λu g d p=>?_);subst p;have y:(Y l).length<=640:=by exact J (fE _) (ac d (by decide))
   exact⟨by simpa [Y]using intText_digits (x:=Y l) (by simpa [Y]using u) (by simpa [Y]using g) (ac y (by decide)),y⟩
theorem Mt{n k}(h:n<2^k)(q:0<k):n.log2<k:=by
 by_cases y:n=0;. clear h;refine J y ?_;simpa using q
 . exact(Nat.log2_lt y).mpr h
theorem P5(h:cw i=true):(dW i).length<=101:=by simpa [dW,String.length_toList]using(int_text_length_le10 (k:=100) (by decide) (lX (uR h) (by decide)))
section
variable{z:Program}{w:World}{j:Addr}{o:Value->Shared->Prop}
noncomputable def yT:lM->Value|.a=>.builtin "len"|.d=>.builtin "min"|.b=>.type "int"|.c=>.type "str"
theorem Hp{a0}{v}{Q}(a2:a3.handled=none)(e:f' L b a0=some v)(p:aF z w j G a1 φ L s.heap)(r:be z w j a1 φ a0 a4)(k:fu z w j G a1 φ L s v L Q):wpAny (model z w) a3 (call (yT b) a4) Q o s:=by induction b with
|a=>refine aP e λa m f=>?_;obtain rfl:=fO m;clear e m;refine D (be.O r) λS A Z=>?_;refine J A ?_;generalize d:aO L a=y at f;induction y using V.casesOn with
 |d H=>
obtain rfl:=ag f;refine bB (ib p Z d) λad vs n z6 z7=>?_;refine J z6 (bk z7 λg q U=>?_);have F:vs.toArray.size=H.length:=by simp [q.K]
have M:=mu U;refine call_len_list (eh g) (by lia) (J F ?_);exact k.ai p f_ _|f x=>induction x with|a l=>obtain rfl:=ag f;refine ae (hi p Z d) λz8 z9=>?_;refine J z8 (D z9 λt co U=>?_);refine J co (P.len_str (by refine J (fE _) ?_;exact Int.not_le_of_gt (mu (ac U (by decide)))) ?_);exact J (fE _) (k.ai p f_ _)|_=>exact C f
 |e dd=>obtain rfl:=ag f;refine bg (pA p Z d) λad a5 cC dq=>?_;refine J cC (kS dq λg q T U=>?_);have M:=mu U;have F:=q.f;refine call_len_dict T g (by lia) (J F ?_);exact k.ai p f_ _|_=>exact C f
|d=>
 refine eo e λa c m f=>?_;obtain rfl:=pH m;refine aP f λx W h=>?_;refine cb h λy K d6=>?_;subst d6;clear e f h m;obtain rfl:=V.m W;obtain rfl:=V.m K;clear W K;refine bg (be.R r) λO O eZ d7=>?_;subst eZ;refine ae d7 λfc gu=>?_;refine av fc λt kO=>?_;refine J kO (av gu λu ny=>?_);refine J ny (min_two_ints a2 λh' B hk=>?_);refine ae (p.t hk) λE X=>?_;split;. rename_i R;exact k _ _ _ _ B E X (by exact J (if_pos R) f_)
 . rename_i R;exact k _ _ _ _ B E X (by exact J (if_neg R) f_)|b=>refine aP e λa m f=>?_;obtain rfl:=fO m;clear e m;refine D (be.O r) λS jq Z=>?_;refine J jq ?_;clear r;induction a using V.casesOn with
 |f x=>induction x with|a l=>refine cb f λi h ie=>?_;subst ie;refine D Z λt kL U=>?_;subst kL;refine ae (N0 h) λp1 p2=>?_;exact KIN.call_text p1 p2 (k.ai p f_ _)|d c=>obtain rfl:=ag f;obtain rfl:=Z;exact call_int_bool (k.ai p f_ _)|_=>exact C f
 |_=>exact C f
|c=>
refine aP e λa m f=>?_;obtain rfl:=fO m;refine aP f λi W h=>?_;refine eI h λI N=>?_;clear e f h m;obtain rfl:=ag N;obtain rfl:=V.m W;clear W N;refine D (be.O r) λO kM kN=>?_;refine J kM (av kN λt nz=>?_);refine J nz (P.str_of_int (bl (Mt (uR I) (by decide)) (by decide)) ?_);have:Str.ofString (toString i)=Y (dW i):=by exact J (Str.ofString_eq_toList _) rfl
exact J this (k.ai p (hH (ac (P5 I) (by decide))) _)
end
end
section
open PySem.Builtin PySem.Builtin.Str
set_option tactic.hygienic true in theorem Fm c l:(cc c l).length<=l.length+1/\∀p∈cc c l,p.length<=l.length:=by induction l with|nil=>exact⟨aH _,λp y=>de (aJ List.length (bF.mp y))⟩|cons x l o=>
refine ae o λq u=>?_;refine J rS ?_;split
. refine⟨by simp;exact q,λp y=>?_⟩;refine dF y ?_ λy=>?_;. simp
  . simp;exact bX (u p y)
. split
  . rename_i w d e;rw [e]at q u;refine⟨by simp at q⊢;exact bX q,λp y=>?_⟩;refine dF y ?_ λy=>?_;. simp;exact(u w (.head _))
    . simp;exact bX (u p (.tail _ y))
  . simp
theorem Fp l:(cn l).length<=l.length/\∀p∈cn l,p.length<=l.length:=by induction l with|nil=>exact⟨aH _,λp q=>nomatch q⟩|cons x l k=>
refine ae k λu o=>?_;by_cases t:ca x=true;. refine J (xj t) ⟨by simp;exact bX u,λp q=>by have:=o p q;simp;exact bX this⟩
. have d:ca x=false:=by simpa using t
  induction l using List.casesOn with|nil=>refine J (vE d) ?_;simp [show cn []=[]from rfl]|cons y l=>
have f:∃w c,cn (x::y::l)=(x::w)::c/\(∀p∈c,p.length<=(y::l).length)/\c.length<=(y::l).length/\w.length<=(y::l).length/\c.length+1<=(y::l).length+1:=by
 refine J (cn.eq_def _) ?_;simp only [d,Bool.false_eq_true,if_false];by_cases m:ca y=true;. simp only [m,if_true];exact(ax [] _ ⟨rfl,o,u,by simp,eA u⟩)
 . simp only [m,Bool.false_eq_true,if_false];rw [vE (by simpa using m)]at u o⊢;refine(ax _ _ ⟨rfl,λp q=>o p (.tail _ q),by simp at u⊢;exact bX u,o _ (.head _),by simp at u⊢;exact bX u⟩)
refine gN f λw c e b n i=>?_;refine ae i λr v=>?_;refine J e ⟨by simp at v⊢;exact v,λp q=>?_⟩;refine dF q ?_ λq=>?_;. simp at r⊢;exact r
. have:=b p q;simp at this⊢;exact bX this
theorem E2 c l:(du c l).1.length<=l.length/\(du c l).2.1.length<=1/\(du c l).2.2.length<=l.length:=by induction l with|nil=>exact⟨aH _,eT _,aH _⟩|cons x l y=>
refine bk y λq u o=>?_;refine J uZ ?_;split;. simp
. simp;exact⟨q,u,bX o⟩
theorem Qh c l:(fP c l).1.length<=l.length/\(fP c l).2.1.length<=1/\(fP c l).2.2.length<=l.length:=by
 refine bk (E2 c l.reverse) λy u q=>?_;unfold fP;simp only;split;. simp
 . simp at y q⊢;exact⟨q,y⟩
theorem E' p l:(dI p l).length<=l.length:=by unfold dI;have y:=PySem.NumText.len_dropWhile p (l.dropWhile p).reverse;simp at y⊢;exact ac y (PySem.NumText.len_dropWhile p l)
section
variable{z:Program}{w:World}{j:Addr}{g:Value->Shared->Prop}
theorem Ar{j}:∀{y:List B}{l:List (Str×Tok)},l.map (λO=>O.1)=y.map Y->(∀p∈y,p.length<=ak)->be z w j o d (y.map .a) (strValues l):=by intro c;induction c with|nil=>intro l h O;rw [List.map_nil,List.map_eq_nil_iff]at h;exact J h rfl|cons t y f=>intro l h u;induction l using List.casesOn with|nil=>cases h|cons p l=>have h:=jJ h;exact(ax _ _ ⟨rfl,by have e:p.1=Y t:=h.1;refine(?_:bs z w j o d _ (.str p.1 p.2));exact J e (hH (u t (.head _))),f h.2 λq m=>u q (.tail _ m)⟩)
theorem Rn:∀{u:List V}{q:List B}{y:List Value},qh u=some q->be z w j i l u y->StrsAre y (q.map Y):=by intro o;induction o with|nil=>intro q y e r;refine J (ag e).symm ?_;obtain rfl:y=[]:=r;exact .nil|cons x u d=>intro q y e r;refine aP e λt h e=>?_;obtain rfl:=V.o h;refine D (fI.mp e) λc f m=>?_;refine J m.symm (bg r λO O p v=>?_);refine J p (ae v λk r=>?_);refine D k λO b O=>?_;exact J b (.cons _ _ (d f r))
theorem PK{t}{Q}(m:aF z w j y r v c s.heap)(u:l.length<=ak)(k:fu z w j y r v c s (.d ((cn l).map .a)) c Q):wpAny (model z w) n (call (.builtin "str.split") [.str (Y l) t]) Q g s:=by
 have b:(spaceWords (Y l) ((Y l).length+1)).length<=sizeLine:=by exact J gB (ac (StrLaws.len_le_wsum (spaceWords (Y l) ((Y l).length+1))) (ac ((StrLaws.sw_weight (Y l)).1) (au u (bt (_root_.id (Eq.refl Bool.true))))))
 have q:∀(o:List (Str×Tok))d,o.map (λO=>O.1)=Txt.words (Y l)->Q (.ref s.heap.objs.size) {s with heap:=s.heap.push (fq (strValues o) 0),toks:=d}:=λo d e=>by
  refine k.aR m (n:=0) (Ar (e.trans (RH l)) λp i=>?_) ?_ d;. exact ac ((Fp l).2 p i) u
  . simp;exact ac ((Fp l).1) (ac u (bt (_root_.id (Eq.refl Bool.true))))
 refine ks qz (jk _ _ _) sC (PySem.F.args_str_split_1 _) (meets_str_split_space (Y l) t (by refine J (fE l) (J gB ?_);exact ac u (bt (_root_.id (Eq.refl Bool.true)))) b) ?_;induction f:spaceWords (Y l) ((Y l).length+1)==[(0,(Y l).length)];. simp only [Bool.false_eq_true,if_false];exact J (strsFrom_eq _ _) (q (numbered s.toks (PySem.wordsOf (Y l))) _ ((numbered_texts _ _).trans (if_neg (sD f)).symm))
 . simp only [if_true];exact q [(Y l,t)] s.toks (if_pos f).symm
theorem PS{t u}{Q}(i:aF z w j o n x v s.heap)(d:l.length<=ak)(k:fu z w j o n x v s (.d ((cc c l).map .a)) v Q):wpAny (model z w) G (call (.builtin "str.split") [.str (Y l) t,.str (Y [c]) u]) Q g s:=by
 have a:(Y l).length<=sizeLine:=by refine J (fE l) (J gB ?_);exact ac d (bt (_root_.id (Eq.refl Bool.true)))
 have h:(partsBetween (Y l) (occurrences (Y l) (Y [c]) 0 (Y l).length ((Y l).length+1)) (Y [c]).length).length<=sizeLine:=by refine J (length_partsBetween _ _ _) (J gB ?_);exact au (StrLaws.occ_length_le (Y l) (Y [c]) 0 (Y l).length ((Y l).length+1)) (au (eA d) (bt (_root_.id (Eq.refl Bool.true))))
 have y:∀(m:List (Str×Tok))r,m.map (λO=>O.1)=Txt.split (Y l) (Y [c])->Q (.ref s.heap.objs.size) {s with heap:=s.heap.push (fq (strValues m) 0),toks:=r}:=λm r e=>by
  refine k.aR i (n:=0) (Ar (e.trans (Fu c l)) λp Z=>?_) ?_ r;. exact ac ((Fm c l).2 p Z) d
  . simp;exact ac ((Fm c l).1) (au d (bt (_root_.id (Eq.refl Bool.true))))
 have b:((Y [c]).length==0)=false:=by exact J (fE _) rfl
 induction q:(decide ((Y l).length<(Y [c]).length)||decide (strKind (Y l)<strKind (Y [c])))
 . induction f:(occurrences (Y l) (Y [c]) 0 (Y l).length ((Y l).length+1)).isEmpty;. refine ks qz (jk _ _ _) sC (yn _ _) (meets_str_split_sep (Y l) (Y [c]) t u q b f a h) ?_;show wants Q g _ {s with toks:=_,heap:=s.heap.push {cls:=.type "list",data:=.seq (strsFrom s.toks (partsBetween (Y l) (occurrences (Y l) (Y [c]) 0 (Y l).length ((Y l).length+1)) (Y [c]).length)).toArray}};exact J (strsFrom_eq _ _) (y (numbered s.toks _) _ ((numbered_texts _ _).trans ((if_neg (sD q)).trans (if_neg (sD f))).symm))
   . exact ks qz (jk _ _ _) sC (yn _ _) (meets_str_split_not_found (Y l) (Y [c]) t u q b f) (y [(Y l,t)] s.toks ((if_neg (sD q)).trans (if_pos f)).symm)
 . exact ks qz (jk _ _ _) sC (yn _ _) (meets_str_split_cannot_occur (Y l) (Y [c]) t u q) (y [(Y l,t)] s.toks (if_pos q).symm)
theorem E_{r}{u o d}{Q}(c:aF z w j y f m q s.heap)(p:r.1.length<=ak)(t:r.2.1.length<=ak)(v:r.2.2.length<=ak)(k:fu z w j y f m q s (gL r) q Q):Q (.ref s.heap.objs.size) {s with heap:=s.heap.push (kQ [.str (Y r.1) u,.str (Y r.2.1) o,.str (Y r.2.2) d] 0),toks:=b}:=by refine k.a0 c (n:=0) ?_ (by simp [ak]) b;exact(ax _ _ ⟨rfl,hH p,_,_,rfl,hH t,_,_,rfl,hH v,rfl⟩)
theorem N1{t u}{Q}(v:aF z w j y b n p s.heap)(o:l.length<=ak)(k:fu z w j y b n p s (gL (du c l)) p Q):wpAny (model z w) L (call (.builtin "str.partition") [.str (Y l) t,.str (Y [c]) u]) Q g s:=by
 have x:(Y l).length<=sizeLine:=by refine J (fE l) ?_;refine J gB ?_;exact ac o (bt (_root_.id (Eq.refl Bool.true)))
 have a:((Y [c]).length==0)=false:=by refine J (fE _) ?_;rfl
 refine bk (E2 c l) λh Z U=>?_;have q:=λG W O D=>E_ (r:=du c l) (u:=G) (o:=W) (d:=O) (b:=D) (Q:=Q) v (ac h o) (ac Z (bt (_root_.id (Eq.refl Bool.true)))) (ac U o) k;have e:=N2 c l;refine ks PySem.F.slot_str_partition (jk _ _ _) PySem.F.entry_str_partition (PySem.F.args_str_partition_2 _ _) (meets_str_partition (Y l) (Y [c]) t u a x) ?_;unfold Txt.partition at e;revert e;induction occurrences (Y l) (Y [c]) 0 (Y l).length 1 using List.casesOn with|nil=>intro e;simp only [Prod.mk.injEq]at e;refine bk e λd f m=>?_;have:=q;rw [<-d,<-f,<-m]at this;exact this _ _ _ _|cons i r=>intro e;simp only [Prod.mk.injEq]at e;refine bk e λd f m=>?_;have:=q;rw [<-d,<-f,<-m]at this;exact this _ _ _ _
theorem Qj{t u}{Q}(r:aF z w j y v b p s.heap)(o:l.length<=ak)(k:fu z w j y v b p s (gL (fP c l)) p Q):wpAny (model z w) O (call (.builtin "str.rpartition") [.str (Y l) t,.str (Y [c]) u]) Q g s:=by
 have n:(Y l).length<=sizeLine:=by rw [(fE l),gB];exact ac o (bt (_root_.id (Eq.refl Bool.true)))
 have x:((Y [c]).length==0)=false:=by rw [fE];rfl
 refine bk (Qh c l) λa h Z=>?_;have q:=λJ U G W=>E_ (r:=fP c l) (u:=J) (o:=U) (d:=G) (b:=W) (Q:=Q) r (ac a o) (ac h (bt (_root_.id (Eq.refl Bool.true)))) (ac Z o) k;have e:=Qk c l;refine ks PySem.F.slot_str_rpartition (jk _ _ _) PySem.F.entry_str_rpartition (PySem.F.args_str_rpartition_2 _ _) (meets_str_rpartition (Y l) (Y [c]) t u x n) ?_;unfold Txt.rpartition at e;revert e;induction lastOccurrence (Y l) (Y [c]) 0 (Y l).length with|none=>intro e;simp only [Prod.mk.injEq]at e;refine bk e λd f m=>?_;have:=q;rw [<-d,<-f,<-m]at this;exact this _ _ _ _|some i=>intro e;simp only [Prod.mk.injEq]at e;refine bk e λd f m=>?_;have:=q;rw [<-d,<-f,<-m]at this;exact this _ _ _ _
end
end
section
open PySem.Builtin PySem.Builtin.Str
noncomputable def hW.O:hW->String|.n|.l|.x|.F|.K|.m=>"str"|.e|.q|.u=>"list"|.t|.y=>"dict"
noncomputable def hW.P:hW->String|.n=>"str.strip"|.l=>"str.split"|.x=>"str.partition"|.F=>"str.rpartition"|.K=>"str.rfind"|.m=>"str.join"|.e=>"list.append"|.q=>"list.extend"|.u=>"list.insert"|.t=>"dict.get"|.y=>"dict.pop"
theorem hW.S(a0:hW):PlainAttrs a0.O/\Slot a0.O a0.R a0.P/\typeOf (.builtin a0.P)=pure (.type "method_descriptor"):=by induction a0 with|n=>exact⟨lh,PySem.F.slot_str_strip,PySem.F.type_str_strip⟩|l=>exact⟨lh,qz,PySem.F.type_str_split⟩|x=>exact⟨lh,PySem.F.slot_str_partition,PySem.F.type_str_partition⟩|F=>exact⟨lh,PySem.F.slot_str_rpartition,PySem.F.type_str_rpartition⟩|K=>exact⟨lh,PySem.F.slot_str_rfind,PySem.F.type_str_rfind⟩|m=>exact⟨lh,PySem.F.slot_str_join,PySem.F.type_str_join⟩|e=>exact⟨yo,yp,PySem.F.type_list_append⟩|q=>exact⟨yo,PySem.F.slot_list_extend,PySem.F.type_list_extend⟩|u=>exact⟨yo,PySem.F.slot_list_insert,PySem.F.type_list_insert⟩|t=>exact⟨xV,sE,PySem.F.type_dict_get⟩|y=>exact⟨xV,xW,PySem.F.type_dict_pop⟩
theorem Mj s:∀q,(cm s q).length<=(q.map (λO=>O.length)).sum+q.length*s.length:=by intro u;induction u with|nil=>exact eT _|cons x u m=>induction u using List.casesOn with|nil=>exact ac (bw x.length 0) (bw _ _)|cons y l=>have:=m;simp only [CM,List.length_append,List.map_cons,List.sum_cons,List.length_cons,Nat.add_mul,Nat.one_mul]at this⊢;lia
theorem Cb{k l}(q:dX n u)(x:eK l O):∃v,(valueAt u k).getD O=v/\eK ((bD n k).getD l) v:=by
 refine(q.e k).elim (λm=>?_) λm=>?_;. refine ae m λt e=>?_;refine J t (J e ?_);exact⟨_,rfl,x⟩
 . refine bP m λy Y t e Z=>?_;refine J t (J e ?_);exact⟨_,rfl,Z⟩
section
variable{j:Program}{w:World}{d:Addr}{z:Value->Shared->Prop}{s:Shared}
theorem NO(e:ek i m a=true)(L:aF j w d g c G i s.heap)(r:bs j w d c G a b):s.TypeIs b m.O/\(∀x,b=.ref x->∃u,s.heap.get? x=some u/\u.dict=none):=by
 have F:∀Z,aO i a=.d Z->s.TypeIs b "list"/\(∀x,b=.ref x->∃u,s.heap.get? x=some u/\u.dict=none):=λZ U=>by refine bB (ib L r U) λM vs n P T=>?_;refine J P (bk T λW q R=>?_);exact⟨(eh W).typeIs,λx C=>by cases C;exact⟨_,W,rfl⟩⟩
 have K:∀Z,aO i a=.e Z->s.TypeIs b "dict"/\(∀x,b=.ref x->∃u,s.heap.get? x=some u/\u.dict=none):=λZ U=>by refine bg (pA L r U) λM B E I=>?_;refine J E (bk I λW q R=>?_);refine D (jh.mp W) λa1 N S=>?_;refine bg S λes ep X O=>?_;exact⟨W.typeIs,λx C=>by cases C;exact⟨_,N,X.2.1⟩⟩
 have a0:∀l,aO i a=.a l->s.TypeIs b "str"/\(∀x,b=.ref x->∃u,s.heap.get? x=some u/\u.dict=none):=λl U=>by refine ae (hi L r U) λA H=>?_;refine J A (D H λt z8 O=>?_);exact J z8 ⟨jk _ _ _,λx C=>by cases C⟩
 have L':pp (aO i a)=true->∃Z,aO i a=.d Z:=λy=>by induction Y:aO i a using V.casesOn<;>rw [Y]at y<;>first|exact⟨_,rfl⟩|exact am y
 have D':qH (aO i a)=true->∃Z,aO i a=.e Z:=λy=>by induction Y:aO i a using V.casesOn<;>rw [Y]at y<;>first|exact⟨_,rfl⟩|exact am y
 have T':Dh (aO i a)=true->∃Z,aO i a=.a Z:=λy=>by induction Y:aO i a using V.casesOn with
|f x=>rw [Y]at y;clear Y;induction x<;>first|exact⟨_,rfl⟩|exact am y
|_=>rw [Y]at y;exact am y
 induction m<;>first|(refine av (L' e) λO y=>?_;exact F _ y)|(refine av (D' e) λO y=>?_;exact K _ y)|(refine av (T' e) λO y=>?_;exact a0 _ y)
theorem ww{m}{a v}{h}(e:nG m i a h=some (v,p)):∃l q,a=.a l/\h=[.a [q]]/\v=m l q/\p=i:=by refine aP e λl t e=>?_;refine aP e λy n e=>?_;refine aP e λu x e=>?_;refine cb e λq Z e=>?_;exact va e (ax l q ⟨V.o t,by refine(fO n).trans ?_;refine J (V.o x) ?_;refine J (fO Z) ?_;rfl,rfl,rfl⟩)
variable{o:List Value}
variable(L:aF j w d g c G i s.heap)(f:bs j w d c G a b)(r:be j w d c G h o)(k:fu j w d g c G i s v p Q)
include L f r k
theorem NM(e:D' i a h=some (v,p)):wpAny (model j w) a0 (call (.builtin "str.strip") (b::o)) Q z s:=by
 refine aP e λl n q=>?_;clear e;obtain rfl:=V.o n;clear n;refine D (f) λt C m=>?_;refine J C ?_;have x:(Y l).length<=sizeLine:=by exact J (fE _) (ac m (by decide))
 induction h using List.casesOn with|nil=>obtain⟨rfl,rfl⟩:=ey (ag q);obtain rfl:o=[]:=r;refine SC.strip (λF M=>?_) x;exact J (FC _) (k.ai L (hH (ac (E' _ _) m)) _)|cons y h=>refine aP q λB Z U=>?_;clear q;refine cb U λu W P=>?_;clear U;cases fO Z;obtain rfl:=V.o W;clear Z W;obtain⟨rfl,rfl⟩:=ey P;refine D (be.O r) λO T R=>?_;refine J T (D R λu K E=>?_);refine J K (SC.stripChars (λF M=>?_) x);exact J (Rm _ _) (k.ai L (hH (ac (E' _ _) m)) _)
theorem NL(e:D9 i a h=some (v,p)):wpAny (model j w) a0 (call (.builtin "str.split") (b::o)) Q z s:=by refine aP e λl m q=>?_;clear e;obtain rfl:=V.o m;clear m;refine D (f) λt C n=>?_;refine J C ?_;induction h using List.casesOn with|nil=>obtain⟨rfl,rfl⟩:=ey (ag q);obtain rfl:o=[]:=r;exact PK L n k|cons y h=>refine aP q λR x Z=>?_;clear q;refine aP Z λu Y U=>?_;clear Z;refine cb U λK W F=>?_;clear U;cases fO x;obtain rfl:=V.o Y;obtain rfl:=fO W;clear x Y W;obtain⟨rfl,rfl⟩:=ey F;refine D (be.O r) λO M P=>?_;refine J M (D P λu T B=>?_);exact J T (PS L n k)
theorem NH(e:nG (λs y=>gL (du y s)) i a h=some (v,p)):wpAny (model j w) a0 (call (.builtin "str.partition") (b::o)) Q z s:=by refine bg (ww e) λl y q m=>?_;subst q;refine ae m λn x=>?_;subst n;refine ae x λZ Y=>?_;subst Z;subst Y;refine D (be.O r) λO J U=>?_;subst J;refine D U λu W M=>?_;subst W;refine D (f) λt C F=>?_;subst C;exact N1 L F k
theorem NK(e:nG (λs y=>gL (fP y s)) i a h=some (v,p)):wpAny (model j w) a0 (call (.builtin "str.rpartition") (b::o)) Q z s:=by refine bg (ww e) λl y q m=>?_;subst q;refine ae m λn x=>?_;subst n;refine ae x λZ Y=>?_;subst Z;subst Y;refine D (be.O r) λO J U=>?_;subst J;refine D U λu W M=>?_;subst W;refine D (f) λt C F=>?_;subst C;exact Qj L F k
theorem NJ(e:nG (λs y=>.b (lt y s)) i a h=some (v,p)):wpAny (model j w) a0 (call (.builtin "str.rfind") (b::o)) Q z s:=by refine bg (ww e) λl y q m=>?_;subst q;refine ae m λn x=>?_;subst n;refine ae x λZ Y=>?_;subst Z;subst Y;refine D (be.O r) λO U W=>?_;subst U;refine D W λu C M=>?_;subst C;refine D (f) λt F P=>?_;subst F;refine SC.rfind (J (OY _ _) ?_);exact k.ai L f_ _
theorem NG(e:D7 i a h=some (v,p)):wpAny (model j w) a0 (call (.builtin "str.join") (b::o)) Q z s:=by
 refine aP e λl Z U=>?_;clear e;refine aP U λy W C=>?_;clear U;refine aP C λxs T F=>?_;clear C;refine aP F λm R M=>?_;clear F;refine eI M λP K=>?_;clear M;obtain rfl:=V.o Z;obtain rfl:=fO W;obtain⟨rfl,rfl⟩:=ey (ag K);clear Z W;refine D (be.O r) λry B E=>?_;refine J B (D (f) λt I hl=>?_);refine J I (bB (ib L E (V.t T)) λad vs n N S=>?_);refine J N (bk S λX q O=>?_);have u:=Mj l m;have A:((m.map Y).map (λO=>O.length)).sum=(m.map (λO=>O.length)).sum:=by exact J di (aJ List.sum (qs λx O=>fE x))
 refine join_list (eh X) (Rn R q) ?_ λH k'=>?_;. refine J A (J (bU _) ?_);refine J (fE _) ?_;have:=P;unfold ak at this;exact ac (bC this) (bt (_root_.id (Eq.refl Bool.true)))
 . show Q (.str (Txt.join (Y l) (m.map Y)) H) _;unfold Txt.join;exact J (K3 _ _) (k.ai L (hH (ac u (bC P))) _)
theorem NC(e:D3 i a h=some (v,p)):wpAny (model j w) a0 (call (.builtin "list.append") (b::o)) Q z s:=by
 refine aP e λn l Z=>?_;clear e;refine aP Z λx Y U=>?_;clear Z;refine aP U λy W O=>?_;clear U;refine aP O λT C F=>?_;clear O;refine eI F λM R=>?_;clear F;obtain rfl:=V.v l;obtain rfl:=fO Y;obtain rfl:=V.t C;obtain⟨rfl,rfl⟩:=ey (ag R);clear l Y C;refine D (be.O r) λq K B=>?_;refine J K (bB (ua L f W) λE u m I N=>?_);refine J I (hQ N λS A t P e5=>?_);have H:u.toArray.size=T.length:=by simp [P.K]
 refine ks yp (eh t).typeIs PySem.F.entry_list_append (PySem.F.args_list_append_2 _ _) (list_append E u.toArray m q (by exact J H (rv M))) ⟨t,?_⟩;refine ae (L.K S W A t (λx=>x.push q) (a3:=u++[q]) (by simp) (P.Q (be.S B)) (by simp;exact bl M (bt (_root_.id (Eq.refl Bool.true))))) λS' X=>?_;exact k _ _ _ _ s.toks S' X nA
theorem ND(e:D4 i a h=some (v,p)):wpAny (model j w) a2 (call (.builtin "list.extend") (b::o)) Q z s:=by
 refine aP e λn U W=>?_;clear e;refine aP W λx C F=>?_;clear W;refine aP F λM P T=>?_;clear F;refine aP T λy R K=>?_;clear T;refine aP K λB E I=>?_;clear K;refine eI I λN H=>?_;clear I;obtain rfl:=V.v U;obtain rfl:=fO C;obtain rfl:=V.t E;obtain rfl:=V.t P;obtain⟨rfl,rfl⟩:=ey (ag H);clear U C E P;refine D (be.O r) λrx tp r2=>?_;refine J tp (bB (ua L f R) λad t m tq Ce=>?_);refine J tq (hQ Ce λe1 e2 l S e5=>?_);refine bB r2 λa0 u m' Cf Cg=>?_;refine J Cf (bk Cg λa1 q O=>?_);have hg:=L.b _ _ a1;have A:t.toArray.size=B.length:=by simp [S.K]
 have Z:u.toArray.size=M.length:=by simp [q.K]
 have Y:B.length+M.length<=sizeLine:=by exact J gB (ac (bC N) (bt (_root_.id (Eq.refl Bool.true))))
 refine ks PySem.F.slot_list_extend (eh l).typeIs PySem.F.entry_list_extend (PySem.F.args_list_extend_2 _ _) (AutoSeq1.list_extend_list_list_0 ad t.toArray m a0 u.toArray m' ?_ (ac (ac (de A) e5) (bt (_root_.id (Eq.refl Bool.true)))) (by lia)) ⟨l,hg,?_⟩;. refine J A (J Z ?_);unfold Builtin.List.listTooLong;refine J (e' (nh Y)) (J (Bool.and_false _) ?_);exact iD
 . refine ae (L.K e1 R e2 l (λx=>x++u.toArray) (a3:=t++u) (by simp) (S.Q q) (by simp;exact ac (bC N) (bt (_root_.id (Eq.refl Bool.true))))) λS' X=>?_;exact k _ _ _ _ s.toks S' X nA
theorem NF(e:D6 i a h=some (v,p)):wpAny (model j w) a0 (call (.builtin "list.insert") (b::o)) Q z s:=by
 refine aP e λn W O=>?_;clear e;refine eo O λa1 x D C=>?_;clear O;refine aP C λq F M=>?_;clear C;refine aP M λy P T=>?_;clear M;refine aP T λt R K=>?_;clear T;refine eI K λN S=>?_;refine bk N λB A E=>?_;clear K;obtain rfl:=V.v W;obtain rfl:=V.m F;obtain rfl:=pH D;obtain rfl:=V.t R;obtain⟨rfl,rfl⟩:=ey (ag S);clear W D R F;refine bg (be.R r) λrj Z H Cj=>?_;refine J H (ae Cj λCk r2=>?_);refine av Ck λtj YE=>?_;refine J YE (bB (ua L f P) λad l m Cm Cn=>?_);refine J Cm (hQ Cn λe1 e2 Y U e5=>?_);have hz:l.toArray.size=t.length:=by simp [U.K]
 refine ks PySem.F.slot_list_insert (eh Y).typeIs PySem.F.entry_list_insert (PySem.F.args_list_insert_3 _ _ _) (AutoSeq1.list_insert_list_int_val_1 ad l.toArray m q tj Z ?_ (by exact J hz (rv E))) ⟨Y,?_⟩;. unfold Builtin.List.listFitsIndex;refine J (em (oD (by decide) B)) (J (em (by exact lW A (bt (_root_.id (Eq.refl Bool.true))))) ?_);exact iD
 . obtain⟨S',X⟩:=L.K e1 P e2 Y (λt=>have k:=if q<0 then(q+t.size).toNat else min q.toNat t.size;(t.extract 0 k).push Z++t.extract k) (a3:=l.take q.toNat++Z::l.drop q.toNat) (by
simp only [show¬(q<0)by exact Int.not_lt_of_ge B,if_false];apply Array.toList_inj.mp;simp;by_cases I:q.toNat<=l.length;. refine J (lk I) ?_;simp;exact(jg (by simp))
. have u:l.length<=q.toNat:=bC (gA I);refine J (na u) (J (jg u) ?_);refine J (oE u) ?_;simp) (by simpa using(((U.Z q.toNat).Q (be.S r2)).Q (U.W q.toNat))) (by simp;exact J (wy _ _) (ac E (Nat.le_mul_of_pos_left _ (by decide))));exact k _ _ _ _ s.toks S' X nA
theorem NE(e:D5 i a h=some (v,p)):wpAny (model j w) a0 (call (.builtin "dict.get") (b::o)) Q z s:=by refine eo e λy x m t=>?_;clear e;refine aP t λC l n=>?_;clear t;refine aP n λa1 Z Y=>?_;clear n;refine aP Y λa2 F U=>?_;clear Y;refine eI U λM P=>?_;clear U;obtain rfl:=V.s l;obtain rfl:=V.s Z;obtain rfl:=pH m;obtain⟨rfl,rfl⟩:=ey (ag P);clear m l Z;refine bg (be.R r) λrk T R K=>?_;refine J R (ae K λB E=>?_);refine bg (pA L f (V.x F)) λI N S X=>?_;refine J S (kS X λW q u O=>?_);refine D (Cb (k:=C) q E) λrv A H=>?_;refine call_meetsIn sE W.typeIs PySem.F.entry_dict_get (PySem.F.args_dict_get_3 _ _ _) (meets_dict_get_default (eQ j w) I (po (y:=j) (w:=w) M B).1 u T) ⟨_,W.mapOf,?_⟩;exact J A (k.ai L (q' H) _)
theorem NI(e:D8 i a h=some (v,p)):wpAny (model j w) a2 (call (.builtin "dict.pop") (b::o)) Q z s:=by
 refine aP e λn H q1=>?_;clear e;refine eo q1 λy x h2 q2=>?_;clear q1;refine aP q2 λt h3 q3=>?_;clear q2;refine aP q3 λa3 h4 q4=>?_;clear q3;refine aP q4 λq F q5=>?_;clear q4;refine aP q5 λZ h5 q6=>?_;clear q5;refine eI q6 λhk q7=>?_;clear q6;obtain rfl:=V.v H;obtain rfl:=V.s h3;obtain rfl:=V.s h4;obtain rfl:=V.x h5;obtain rfl:=pH h2;obtain⟨rfl,rfl⟩:=ey (ag q7);clear H h2 h3 h4 h5;refine bg (be.R r) λrk rz Cs Ct=>?_;refine J Cs (ae Ct λBB BF=>?_);refine bB (Bg L f F) λM a0 u Cu Cv=>?_;refine J Cu (vP Cv λe1 Y P e4 T Cw=>?_);refine ae Cw λU R=>?_;have K:=po (y:=j) (w:=w) hk BB;have W:s.heap.DictOf (eQ j w) M u:=jh.mpr ⟨a0,e4,T⟩;have B:u.length<=sizeLine:=by refine J U.f (J gB ?_);exact ac R (bt (_root_.id (Eq.refl Bool.true)))
 have l:(u.map (λO=>O.1)).Nodup:=by refine gN T λO O O O O Cy=>?_;refine ae Cy λO x=>?_;exact x
 have m:(keyPart rk).isSome=true:=by exact mp K.1 (λO O=>rfl) λO O=>rfl
 refine(U.e t).elim (λE=>?_) λE=>?_
 . obtain⟨I,C⟩:=E;refine call_meetsIn xW W.typeIs PySem.F.entry_dict_pop (PySem.F.args_dict_pop_3 _ _ _) (meets_dict_pop_default (eQ j w) M K.1 P m rz) ⟨u,W,C,?_⟩;have N:t∉u.map (λO=>O.1):=λS=>by
    refine D (cG.mp S) λa1 hp he=>?_;have:(u.find? λkv=>kv.1=t)=none:=by simpa [valueAt]using C
    have:=sF.mp this a1 hp;simp [he]at this
   have hd:=U.g (k:=t) l;rw [without_of_not_mem _ _ N]at hd;refine ae (L.G e1 F (λe=>by cases e) (λO O O e=>e) Y (g:=s.heap) (a6:=.e (kw Z t)) ⟨Y,P,a0,u,e4,T,hd,by have:=Ca Z t;exact ac this R⟩ (λe=>by cases e)) λA X=>?_;refine k _ _ _ _ _ A X (J I ?_);exact q' BF
 . obtain⟨y,rv,I,C,f3⟩:=E;refine call_meetsIn xW W.typeIs PySem.F.entry_dict_pop (PySem.F.args_dict_pop_3 _ _ _) (meets_dict_pop_there (eQ j w) M K.1 [rz] (.inr ⟨_,rfl⟩) m) (ax u rv ⟨W,B,C,λh' S hs=>?_⟩);refine D (jh.mp S) λo' g' d'=>?_;refine ae (L.G e1 F (λe=>by cases e) (SameBut.a hs) Y (g:=h') (a6:=.e (kw Z t)) ⟨Y,P,o',_,g',d',U.g (k:=t) l,by have:=Ca Z t;exact ac this R⟩ (λe=>by cases e)) λA X=>?_;refine k _ _ _ _ _ A X (J I ?_);exact q' f3
theorem NT(e:cN i m a h=some (v,p)):wpAny (model j w) u (call (.builtin m.P) (b::o)) Q z s:=by induction m with|n=>exact NM L f r k e|l=>exact NL L f r k e|x=>exact NH L f r k e|F=>exact NK L f r k e|K=>exact NJ L f r k e|m=>exact NG L f r k e|e=>exact NC L f r k e|q=>exact ND L f r k e|u=>exact NF L f r k e|t=>exact NE L f r k e|y=>exact NI L f r k e
end
end
structure hF(z:Env)(y:Scope)(L:Addr):Prop where
a:z.scope=y
c:y.kind=.function
b:z.locals=L
f:z.globals=mainGlobals
h:z.builtins=builtinsNs
theorem hF.e(x:hF z y L):(z.scope.kind==.class||(z.scope.kind==.module&&z.locals !=z.globals))=false:=by refine J x.a (J x.c ?_);rfl
structure bW where
a:Program
b:World
h:Addr
d:Heap
section
variable(z:bW)
abbrev bW.c(y:aw)(q:List Addr)(u:af)(w:Heap):Prop:=Mp.aF z.a z.b z.h z.d y q u w
abbrev bW.e(y:aw)(q:List Addr)(v:V)(u:Value):Prop:=Mp.bs z.a z.b z.h y q v u
abbrev bW.g(y:aw)(q:List Addr)(v:List V)(u:List Value):Prop:=Mp.be z.a z.b z.h y q v u
abbrev bW.j(y:aw)(q:List Addr)(L:Addr)(u:List Str)(w:ao)(o:Heap):Prop:=Mp.sV z.a z.b z.h y q L u w o
def bW.f{m p:Type}(l:aw->List Addr->m->p->Prop)(n:aw)(x:List Addr)(G:af)(s:Shared)(v:m)(y:af)(Q:p->Shared->Prop):Prop:=∀r q u w k,s.toks<=k->z.c q u y w->cp n x G s.heap q u y w->l q u v r->Q r {s with heap:=w,toks:=k}
theorem ij{z:bW}{d c:Type}{j}{u}{g}{w y q}{s}{v o:d}{Q:c->Shared->Prop}(e:(o,q)=(v,y))(k:z.f j u g w s v y Q):z.f j u g w s o q Q:=by cases e;exact k
theorem kH{z:bW}{d c:Type}{j}{u}{g}{w y q}{s}{v o:d}{Q:c->Shared->Prop}(e:some (o,q)=some (v,y))(k:z.f j u g w s v y Q):z.f j u g w s o q Q:=ij (ag e) k
abbrev sq:aw->List Addr->Bool->Bool->Prop:=λO O b c=>c=b
abbrev Oj:aw->List Addr->Unit->Unit->Prop:=λO O O O=>True
end
section
variable{q:bW}{j u:af}{g:Value->Shared->Prop}{w:aw->List Addr->y->z->Prop}
theorem bW.f.o(k:q.f w G O L s v j Q)(x:cp G O L s.heap l m u n)(a0:s.toks<=p):q.f w l m u {s with heap:=n,toks:=p} v j Q:=λY J U W D Z C F r=>k Y J U W D (ac a0 Z) C (x.e F) r
theorem bW.f.t{m}(k:q.f w p l x s v x Q)(G:q.c p l x s.heap)(r:w p l v m)n(O:s.toks<=n):Q m {s with toks:=n}:=k m p l s.heap n O G (cp.j G) r
theorem mI{v}{Q}(k:q.f q.e c f p s v j Q)(h:∀o,fu q.a q.b q.h q.d c f p s v j o->wpAny (model q.a q.b) t m o g s):wpAny (model q.a q.b) t m Q g s:=ni (aH _) (fx (h (λa d=>s.toks<=d.toks->Q a d) λb e i l n S x r Z=>k b e i l n Z S x r) (λO O x=>x) (λO O x O=>x))
theorem wY{v}{Q}(k:q.f sq c f p s v j Q)(h:∀o,su q.a q.b q.h q.d c f p s v j o->wpAny (model q.a q.b) t m o g s):wpAny (model q.a q.b) t m Q g s:=ni (aH _) (fx (h (λa d=>s.toks<=d.toks->Q a d) λr b e i S x l=>k v r b e i l S x rfl) (λO O x=>x) (λO O x O=>x))
theorem RE{Q}(k:q.f Oj c f p s () j Q)(h:∀o,FL q.a q.b q.h q.d c f p s j o->wpAny (model q.a q.b) t m o g s):wpAny (model q.a q.b) t m Q g s:=ni (aH _) (fx (h (λa d=>s.toks<=d.toks->Q a d) λr v b e S x i=>k () r v b e i S x trivial) (λO O x=>x) (λO O x O=>x))
end
structure cJ(z:bW)(u:Nat)(g:Scope)(w:List Str)(o:Around)(c:Env)(L:Addr)(y:aw)(q:List Addr)(m:af)(p:ao)(s:Shared):Prop where
c:hF c g L
f:oS o u
a:z.c y q m s.heap
b:z.j y q L w p s.heap
h:0<s.toks
theorem cJ.d{u}{m}{p}{t}{r}{y}{L}{v g}{l w}{n z}{Q}{s}{o}{G}(q:cJ u m p t r y L v l n Q s)(O:s.toks<=G)(a0:u.c g w z o)(x:cp v l n s.heap g w z o):cJ u m p t r y L g w z Q {s with heap:=o,toks:=G}:=⟨q.c,q.f,a0,q.b.e x,bl q.h O⟩
section
variable(z:bW)(u:Nat)(q:Scope)(j:List Str)
def aX(p:Expr)(m:ao->cM V):Prop:=∀A E s o d w c t y v g f,m c w=some (v,g)->cJ z u q j A y t o d w c s->z.f z.e o d w s v g f->wpAny (model z.a z.b) A (eval p y) f E s
def eL(d:Expr)(m:ao->cM Bool):Prop:=∀A E s F c o f L y p g Q,m f o=some (p,g)->cJ z u q j A y L F c o f s->z.f sq F c o s p g Q->wpAny (model z.a z.b) A (isTrue d y (eval d y)) Q E s
def te(w:List Expr):Prop:=∀g,starEach w g=w.map λy=>(false,eval y g)
def fX(d:List Expr)(m:ao->cM (List V)):Prop:=te d/\(d.length<29/\∀c w v g,m c w=some (v,g)->v.length=d.length)/\∀A E s f p w c L o v g Q,m c w=some (v,g)->cJ z u q j A o L f p w c s->z.f z.g f p w s v g Q->wpAny (model z.a z.b) A (spliced (d.map λy=>(false,eval y o))) Q E s
end
theorem yQ:∀(l:List (Sem Value)),backTo z (l.map λy=>(false,y))=l.map λy=>(false,y)|[]=>rfl|x::l=>by exact aJ (λO=>_::O) (yQ (z:=z) l)
theorem te.a(h:te j)q z:backTo q (starEach j z)=j.map λy=>(false,eval y z):=by refine J (h z) ?_;have:=yQ (z:=q) (j.map λy=>eval y z);rw [di]at this;exact this
theorem fX.F:fX o d c f [] (λO y=>some ([],y)):=⟨λO=>rfl,⟨by simp,λj y v q e=>by exact lv e rfl⟩,λA E s m p y j L u v q Q e a k=>by(refine ae (ey (ag e)) λg w=>?_;subst g;subst w);exact lY (k.t a.a (by simp only [bW.g,Mp.be]) s.toks (aH _))⟩
theorem fX.z{m}{a0}(a3:∀y g,starEach (O::g) y=(false,eval O y)::starEach g y)(t:Ys.length<28)(a4:aX a1 a2 sc nm O m)(o:fX a1 a2 sc nm Ys a0):fX a1 a2 sc nm (O::Ys) (λp G=>(m p G).bind λr=>(a0 p r.2).map λq=>(r.1::q.1,q.2)):=by refine⟨λy=>by rw [a3];exact J (o.1 y) rfl,⟨by simp;exact au t (by decide),λp G v Y e=>by refine aP e λr C b=>?_;refine cb b λq U W=>?_;clear b e;refine va W ?_;simp [o.2.1.2 _ _ _ _ U]⟩,λA E s P T G p L y v Y Q e a k=>?_⟩;refine aP e λr C b=>?_;refine cb b λq U W=>?_;clear b e;(refine ae (ey W) λR V=>?_;subst R;subst V);refine jl (a4 A E s P T G p L y r.1 r.2 _ C a λI i d M D j l w n=>?_);refine o.2.2 A E _ i d r.2 p L y q.1 q.2 _ U (a.d j l w) λN K c x f B h u Z=>?_;exact k _ K c x f (ac j B) h (w.e u) (ax _ _ ⟨rfl,n.F u.d u.b,Z⟩)
theorem eL.x{m}(G:aX O a0 sc nm c m)(a1:∀y z,isTrue c y z=(do let f<-z;standAt c.pos;holding [f] (truthy f))):eL O a0 sc nm c (λp=>(gh (m p)).2):=by intro A E s F Z Y p L y f J Q e a k;refine aP e λr U l=>?_;refine cb l λb W D=>?_;clear l e;(refine ae (ey D) λC M=>?_;subst C;subst M);refine wpAny_isTrue_value (G A E s F Z Y p L y r.1 r.2 _ U a λT n t h i j g o d=>?_) (a1 y _);exact wY (k.o o j) λR P=>wT W g d P
theorem aX.W{c:iy}{y}{p}(q:∀l,c=.d l->l.length<=ak):aX g w o d (.Constant c.f y p) (λf z=>some (c.e,z)):=by intro A E s m t z r n j v u x e a k;replace k:=kH e k;induction c with|b=>exact wpAny_Constant_none (k.t a.a nA s.toks (aH _))|a b=>exact wpAny_Constant_bool (k.t a.a gp s.toks (aH _))|c i=>exact qA (k.t a.a f_ _ (e_ _))|d l=>exact nj (k.t a.a (hH (q l rfl)) _ (e_ _))
theorem aX.a6(g:w[i]?=some x)(d:c.names.lookup x=some .local)(f:(x==("__debug__":Str))=false):aX G a7 c w (.Name x p) (λy j=>(dR y i).map λv=>(v,j)):=by
 intro A E s M T j y V q v t B e a k;refine cb e λu z b=>?_;clear e;cases b;unfold dR at z;have l:y[i]?=some (some v):=by induction h:y[i]? with|none=>exact C (h▸z)|some o=>rw [h]at z;exact aJ some z
 refine D (a.b.c) λm n Y=>?_;refine D (Y i x v g l) λI U r=>?_;refine lZ (oF (by exact J a.c.a a.c.c) (by refine(?_:q.scope.names.lookup x=_);exact J a.c.a d) (by exact J a.c.b n) U ?_) f;exact k.t a.a r s.toks (aH _)
theorem aX.O{m n}(a8:aX G a7 sc nm a9 m)(b0:aX G a7 sc nm b1 n):aX G a7 sc nm (.BinOp a9 b2 b1 p) (λo x=>(m o x).bind λr=>(n o r.2).bind λq=>(cZ q.2 b2 r.1 q.1).map λv=>(v,q.2)):=by intro A E s C M x o U d v T b3 e a k;refine aP e λr V e=>?_;refine aP e λq B e=>?_;refine cb e λu I e=>?_;refine l' (a8 A E s C M x o U d r.1 r.2 _ V a λrv c g D h z f j t=>?_);refine b0 A E _ c g r.2 o U d q.1 q.2 _ B (a.d z f j) λY b4 J b w N i y l=>?_;exact mI ((ij e k).o (j.e y) (ac z N)) λQ' H=>Hq (s:={s with heap:=b,toks:=w}) I i (t.F y.d y.b) l H
theorem aX.a1{m}(b:aX i l n x h m):aX i l n x (.UnaryOp .USub h p) (λg w=>(m g w).bind λr=>(pG r.1).map λv=>(v,r.2)):=by intro A E s Y J w g U o v G T e a k;refine aP e λr D e=>?_;refine cb e λu C e=>?_;refine wpAny_UnaryOp (b A E s Y J w g U o r.1 r.2 _ D a λV f d t c z y q j=>?_);exact mI ((ij e k).o q z) λB M=>M_ C y j M
theorem aX.a2{m}(G:aX h a7 sc nm a8 m):aX h a7 sc nm (.UnaryOp .Not a8 p) (λt i=>(m t i).bind λr=>(ev r.2 r.1).map λb=>(.h (!b),r.2)):=by intro A E s U D i t C l v M T e a k;refine aP e λr V e=>?_;refine cb e λu B e=>?_;refine wpAny_UnaryOp (G A E s U D i t C l r.1 r.2 _ V a λrv Y n J x z j g w=>not_value ?_);refine wY (q:=h) (j:=r.2) (v:=u) (Q:=λb o=>T (.bool (!b)) o) (λb I y d q N c f H=>?_) λQ' k'=>wT B j w k';cases H;exact(ij e k) _ I y d q (ac z N) c (g.e f) gp
theorem eL.w{m}(l:eL n h G O a0 m):eL n h G O (.UnaryOp .Not a0 p) (λt b=>(m t b).map λr=>(!r.1,r.2)):=by intro A E s F Z b t L i W Y Q e a k;refine cb e λr U e=>?_;refine wpAny_isTrue_Not (l A E s F Z b t L i r.1 r.2 _ U a λD g z o y j d c f=>?_);exact J f ((ij e k) _ g z o y j d c rfl)
theorem aX.ai{G a7 a8}{t}{m n}(a9:eL c f b i G t)(b0:aX c f b i a7 m)(b1:aX c f b i a8 n):aX c f b i (.IfExp G a7 a8 p) (λg=>uO (t g) (m g) (n g)):=by
 intro A E s D C M g l w v o Y e a k;refine aP e λr T e=>?_;refine wpAny_IfExp (a9 A E s D C M g l w r.1 r.2 _ T a λV j q U x z u y d=>?_);refine J d ?_;split at e;. rename_i h;exact J h (b0 A E _ j q r.2 g l w v o Y e (a.d z u y) (k.o y z))
 . rename_i h;exact J (if_neg h) (b1 A E _ j q r.2 g l w v o Y e (a.d z u y) (k.o y z))
theorem eL.v{O a0 a1}{t m n}(a2:eL i l h G O t)(a3:eL i l h G a0 m)(a4:eL i l h G a1 n):eL i l h G (.IfExp O a0 a1 p) (λd=>uO (t d) (m d) (n d)):=by
 intro A E s F D C d L c U f Q e a k;refine aP e λr M e=>?_;refine J (arm_isTrue_IfExp _ _ _ _ _ _) (bT (a2 A E s F D C d L c r.1 r.2 _ M a λP g j W Z z o y b=>?_));refine J b ?_;split at e;. rename_i Y;exact J Y (a3 A E _ g j r.2 d L c U f Q e (a.d z o y) (k.o y z))
 . rename_i Y;exact J (if_neg Y) (a4 A E _ g j r.2 d L c U f Q e (a.d z o y) (k.o y z))
theorem AN{m n}(a3:aX j a1 sc nm a4 m)(a5:aX j a1 sc nm a6 n){c}{Q}(e:rg a7 (m G) (n G) O=some (b,a0))(a:cJ j a1 sc nm f g L a2 φ O G s)(k:j.f j.e a2 φ O s (.h b) a0 Q):wpAny (model j.a j.b) f (eval a4 g) (λv p=>wpAny (model j.a j.b) f (eval a6 g) (λu t=>wpAny (model j.a j.b) f (compareOp a7 v u) Q c t) c p) c s:=by refine aP e λr C e=>?_;refine aP e λq F e=>?_;refine cb e λu M e=>?_;(refine ae (ey e) λP T=>?_;subst P;subst T);refine a3 f c s a2 φ O G L g r.1 r.2 _ C a λK i o D J z l w x=>?_;refine a5 f c _ i o r.2 G L g q.1 q.2 _ F (a.d z l w) λU B W h d R Z y Y=>?_;exact mI (k.o (w.e y) (ac z R)) λE V=>HX (s:={s with heap:=h,toks:=d}) M Z (x.F y.d y.b) Y (by have:=a.f.c;lia) V
theorem aX.R{m n}(o:behindInMarks y q=false)(d:aX j u g w c m)(f:aX j u g w q n):aX j u g w (.Compare c [y] [q] p) (λz=>FK (rg y (m z) (n z))):=by intro A E s l x h z Y t v b J e a k;refine cb e λr i e=>?_;exact wpAny_Compare1 (AN d f i a (ij e k)) o
theorem eL.u{m n}(O:behindInMarks r b=false)(a0:aX i l h G a1 m)(a2:aX i l h G b n):eL i l h G (.Compare a1 [r] [b] p) (λt=>rg r (m t) (n t)):=by intro A E s F U W t L Z D Y Q e a k;refine wpAny_isTrue_Compare1 (AN a0 a2 e a λC g z o y j d c f=>?_) O;exact J f (sv (k _ g z o y j d c rfl))
theorem aX.aR{m n}(a8:aX G a7 sc nm a9 m)(b0:aX G a7 sc nm b1 n):aX G a7 sc nm (.Subscript a9 b1 p) (λo x=>(m o x).bind λr=>(n o r.2).bind λq=>(a_ q.2 r.1 q.1).map λv=>(v,q.2)):=by intro A E s C M x o U d v T b2 e a k;refine aP e λr V e=>?_;refine aP e λq B e=>?_;refine cb e λu I e=>?_;refine Subscript_ (a8 A E s C M x o U d r.1 r.2 _ V a λrv c g D h z f j t=>?_);refine b0 A E _ c g r.2 o U d q.1 q.2 _ B (a.d z f j) λY b3 J b w N i y l=>?_;exact mI ((ij e k).o (j.e y) (ac z N)) λQ' H=>L4 (s:={s with heap:=b,toks:=w}) I i (t.F y.d y.b) l H
theorem aX.a5{b}(w:fX G a7 sc nm Ys b):aX G a7 sc nm (.Tuple Ys a8 p) (λo d=>(b o d).map λr=>(.g r.1,r.2)):=by
 intro A E s D C d o M c v T V e a k;refine cb e λr i e=>?_;refine wpAny_Tuple_spliced ?_;rw [w.1.a];refine fx (Q:=λl z=>l.length<=2*ak/\V (.ref z.heap.objs.size) {z with heap:=z.heap.push {cls:=.type "tuple",data:=.seq l.toArray}}) (w.2.2 A E s D C d o M c r.1 r.2 _ i a λn h f Y q j u g y=>?_) (λm m x=>⟨by rw [gB];exact ac x.1 (by decide),x.2⟩) (λm m x=>x);have U:r.1.length<=2*ak:=by exact J (w.2.1.2 _ _ _ _ i) (ac (bC w.2.1.1) (by decide))
 refine⟨by exact J y.K U,?_⟩;refine ae (Mp.aF.O u (o:=kQ n 0) rfl) λB t=>?_;exact(ij e k) _ _ _ _ q j B (g.e t) (dK _ n 0 ⟨rfl,aw.d,y.L t.d t.b,U⟩)
section
variable{z:Addr}
theorem aF.m(g:aF y w z q u i n h)(c:h.get? a=none):u a=none:=by induction f:u a with|none=>rfl|some o=>exact C (c.symm.trans (g.b _ _ f))
theorem aF.p(u:aF y w z q n g s h)(c:h.get? a=none):a∉g:=λf=>by refine av (u.e a f) λo i=>?_;exact C (c.symm.trans i)
theorem aF.P(g:aF n w z s a1 φ σ h)(hk:∀y u,h.get? y=some u->a2.get? y=some u)(a0:h.get? a=none)(a3:a2.get? a=some o):aF n w z s (a1.c a o) φ σ a2/\cp a1 φ σ h (a1.c a o) φ σ a2:=by
 have Y:=g.m a0;refine⟨⟨λy u q=>?_,λy u q=>aw.e Y y u (g.j y u q),g.d,g.l,λy f=>(g.e y f).imp λu q=>hk y u q,λi y c D C=>?_⟩,⟨aw.e Y,dt,g.d,g.e,λi y q F=>absurd (bo.mp q).1 (lf.mpr F),λy u q M=>hk y u q,λM q=>q,λy u q=>?_⟩⟩
 . unfold aw.c at q;by_cases f:y=a;. rw [if_pos f]at q;refine J (ag q).symm ?_;clear Y a0;exact J f a3
   . rw [if_neg f]at q;exact hk y u (g.b y u q)
 . have f:y≠a:=λU=>g.p a0 (U▸cq D);exact(g.k i y c D C).z (aw.e Y) dt (λU=>by exact(aw.b f).trans U) (hk y)
 . by_cases f:y=a;. exact .inr (.inl (by exact J f a0))
   . rw [aw.b f]at q;exact .inl q
theorem aF.Q(g:aF f w z a0 a1 n σ h)(hk:∀u o,h.get? u=some o->a2.get? u=some o)(a3:h.get? a=none)(hc:kU f w z a1 (n++[a]) a2 a c)(s:c≠.i):aF f w z a0 a1 (n++[a]) (σ++[c]) a2/\cp a1 n σ h a1 (n++[a]) (σ++[c]) a2:=by
 have C:=g.p a3;refine⟨⟨λu o q=>hk u o (g.b u o q),g.j,by simp [g.d],?_,λu F=>?_,λi u B D M=>?_⟩,⟨aw.a.i _,l_ ..,g.d,g.e,λi u q Y=>?_,λu o q T=>hk u o q,λi q=>?_,λT T q=>.inl q⟩⟩;. exact J (propext iE) ⟨g.l,by simp,λV E y I=>by clear hc a3;refine J (bF.mp I) ?_;exactλq=>C (q▸E)⟩
 . rcases cr.mp F with F|F;. exact(g.e u F).imp λo q=>hk u o q
   . exact J (bF.mp F) (hc.ai s)
 . by_cases Y:i<n.length;. rw [iI Y]at D;rw [iI (g.d▸Y)]at M;exact(g.k i u B D M).z (aw.a.i _) (l_ ..) (λV=>V) (hk u)
   . have U:i=n.length:=by have:=(bo.mp D).1;simp at this;exact gk (eB this) (g' Y)
     clear Y;subst U;rw [iF (aH _)]at D;rw [g.d,iF (aH _)]at M;simp at D M;refine J D.symm (J M.symm ?_);exact hc
 . have U:i=n.length:=by have:=(bo.mp q).1;simp at this;exact gk (eB this) Y
   clear Y;subst U;rw [iF (aH _)]at q;simp at q;exact J q.symm a3
 . refine(iI (bo.mp q).1).trans ?_;exact q
end
section
variable{z:bW}
theorem M3{y}{v}{n}{Q}(e:eU d (.d y) c=some (v,j))(q:z.c f m c s.heap)(k:z.f z.e f m c s v j Q)(r:z.g f m y u)(p:y.length<=2*ak)(t:∀b i,s.heap.get? b=some i->l.get? b=some i)(g:s.heap.get? a=none)(h:l.get? a=some (fq u n))(G:s.toks<=w):Q (.ref a) {s with heap:=l,toks:=w}:=by
 unfold eU at e;split at e;. refine ae (Mp.aF.Q q t g (c:=.d y) ⟨q.m g,u,n,h,r.L (aw.a.i _) (l_ ..),p⟩ (λe=>by cases e)) λo x=>?_;exact(kH e k) _ _ _ _ w G o x ⟨a,rfl,by refine J (aN q.d) ?_;refine J (iF (aH _)) ?_;simp⟩
 . refine ae (Mp.aF.P q t g h) λo x=>?_;exact(kH e k) _ _ _ _ w G o x (dK a u n ⟨rfl,aw.d,r.L x.d x.b,p⟩)
theorem Cc{v}{Q}(e:eU c (.e d) f=some (v,j))(q:z.c O L f s.heap)(k:z.f z.e O L f s v j Q)(m:o.IsDictOf (eQ z.a z.b) y)(r:dX d y)(p:d.length<=2*ak)(t:(a==sysModules)=false)(i:∀b l,s.heap.get? b=some l->n.get? b=some l)(u:s.heap.get? a=none)(h:n.get? a=some o)(G:s.toks<=g):Q (.ref a) {s with heap:=n,toks:=g}:=by
 unfold eU at e;split at e;. refine ae (Mp.aF.Q q i u (c:=.e d) ⟨q.m u,t,o,y,h,m,r,p⟩ (λe=>by cases e)) λw x=>?_;exact(kH e k) _ _ _ _ g G w x ⟨a,rfl,by refine J (aN q.d) ?_;refine J (iF (aH _)) ?_;simp⟩
 . refine ae (Mp.aF.P q i u h) λw x=>?_;exact(kH e k) _ _ _ _ g G w x (dK a o y ⟨rfl,aw.d,m,r,t,p⟩)
end
theorem aX.a0{i}(o:fX G a7 sc nm Ys i):aX G a7 sc nm (.List Ys p) (λd c=>(i d c).bind λr=>eU l (.d r.1) r.2):=by
 intro A E s D C c d M f v T V e a k;refine aP e λr n e=>?_;refine wpAny_List_spliced ?_;rw [o.1.a];refine fx (Q:=λh z=>h.length<=2*ak/\V (.ref z.heap.objs.size) {z with heap:=z.heap.push {cls:=.type "list",data:=.seq h.toArray}}) (o.2.2 A E s D C c d M f r.1 r.2 _ n a λB Y m u q j g w y=>?_) (λt t x=>⟨by rw [gB];exact ac x.1 (by decide),x.2⟩) (λt t x=>x);have U:r.1.length<=2*ak:=by exact J (o.2.1.2 _ _ _ _ n) (ac (bC o.2.1.1) (by decide))
 refine⟨by exact J y.K U,?_⟩;exact M3 (s:={s with heap:=u,toks:=q}) (n:=0) e g (k.o w j) y U (λb I e=>gZ _ e) (gc _) (gj _ rfl) (aH _)
def AJ(q:bW):aw->List Addr->List V->Value->Prop:=λF j z y=>(z=[]/\y=.none)\/∃v,z=[v]/\q.e F j v y
variable(y c f p)in def la(o:Option Expr)(m:ao->cM (List V)):Prop:=∀A E s g w u d L q v j Q,m d u=some (v,j)->cJ y c f p A q L g w u d s->y.f (AJ y) g w u s v j Q->wpAny (model y.a y.b) A (evalPart o q) Q E s
theorem la.z:la u g w o none (λO y=>some ([],y)):=λA E s d c y f L q v j Q e a k=>by exact J (evalPart_none _) (fa ((kH e k).t a.a (.inl ⟨rfl,rfl⟩) s.toks (aH _)))
theorem la.F{m}(b:aX i l n x h m):la i l n x (some h) (λf p=>(m f p).bind λr=>(some ([],r.2):Option (List V×af)).map λq=>(r.1::q.1,q.2)):=λA E s Z Y p f L t v U Q e a k=>by refine aP e λr G e=>?_;refine cb e λq W e=>?_;clear e;refine J (ag W) (J (evalPart_some _ _) ?_);exact b A E s Z Y p f L t r.1 r.2 _ G a λO g y w j u o d c=>(kH e k) _ g y w j u o d (.inr ⟨_,rfl,c⟩)
theorem FW{z}(e:hz z=.some o)(r:AJ d j c z u):∃q:Option (Int×Tok),u=partValue q/\hz z=.some (q.map (λO=>O.1)):=by
 rcases r with⟨rfl,rfl⟩|⟨v,rfl,r⟩;. exact⟨.none,rfl,rfl⟩
 . refine(GL (g:=j) e).elim (λy=>?_) λy=>?_;. refine ae y λh O=>?_;cases h
   . refine D y λi h g=>?_;refine J g ?_;clear e;cases h;refine av r λt w=>?_;exact J w ⟨.some (i,t),rfl,rfl⟩
theorem aX.a4{a9 b0}{m}{b1 b2}(b5:aX a7 a8 sc nm b6 m)(b7:la a7 a8 sc nm a9 b1)(b8:la a7 a8 sc nm b0 b2):aX a7 a8 sc nm (.Subscript b6 (.Slice a9 b0 none c9) p) (λt σ=>(m t σ).bind λr=>(b1 t r.2).bind λq=>(b2 t q.2).bind λu=>(iV u.2 r.1 q.1 u.1).map λv=>(v,u.2)):=by
 intro A E s c0 φ σ t V b v c1 c2 e a k;refine aP e λr e1 e=>?_;refine aP e λq e2 e=>?_;refine aP e λu e3 e=>?_;refine cb e λz e4 e=>?_;replace k:=ij e k;have hb:(∃o,hz q.1=some o)/\∃o,hz u.1=some o:=by refine aP e4 λl h1 e5=>?_;refine aP e5 λh h2 Y=>?_;exact⟨⟨l,h1⟩,⟨h,h2⟩⟩
 refine ae hb λz2 z3=>?_;refine av z2 λo1 c3=>?_;refine av z3 λo2 c4=>?_;refine Subscript_ (b5 A E s c0 φ σ t V b r.1 r.2 _ e1 a λrv U i b3 B y c w G=>wpAny_Slice ?_);refine b7 A E _ U i r.2 t V b q.1 q.2 _ e2 (a.d y c w) λI c5 n b4 N b9 C g M=>?_;refine b8 A E _ c5 n q.2 t V b u.1 u.2 _ e3 ((a.d y c w).d b9 C g) λc6 ju nO T j iE im d Wp=>?_;refine J (evalPart_none _) (fa ?_);refine D (FW c3 M) λpl z4 c7=>?_;refine J z4 (D (FW c4 Wp) λpu z5 c8=>?_);refine J z5 (ni (n:=j) (aH _) ?_);refine fx (Qa (m:=E) (s:={s with heap:=T,toks:=j}) (d:=pl) (u:=pu) (Q:=λv f=>j<=f.toks->c2 v f) e4 im (G.F (g.d.j d.d) (g.b.trans d.b)) c7 c8 λrv F' aq h' tk S' x' r' H=>?_) (λY Y x=>x) (λY Y x Y=>x);exact k rv F' aq h' tk (ac (ac y (ac b9 iE)) H) S' (((w.e g).e d).e x') r'
variable(y d c f)in def k_(t:Bool)(r:List Expr)(m:ao->cM V):Prop:=∀A E s g w u o L q v j Q p,m o u=some (v,j)->cJ y d c f A q L g w u o s->y.f y.e g w u s v j Q->wpAny (model y.a y.b) A (boolOp p (og t) (evalEach r q)) Q E s
theorem k_.F{m}(g:aX w o d c f m):k_ w o d c l [f] (λy q=>(m y q).bind λr=>some r):=λA E s t b q y L j v u Q p e a k=>by refine aP e λr i e=>?_;obtain rfl:=ag e;exact g A E s t b q y L j v u Q i a k
theorem k_.z{m n}(a4:aX l a0 sc nm a1 m)(a2:k_ l a0 sc nm x (a3::Ys) n):k_ l a0 sc nm x (a1::a3::Ys) (λh G=>(m h G).bind λr=>(ev r.2 r.1).bind λb=>if b=x then n h r.2 else some r):=λA E s T R G h L w v Z Q p e a k=>by
 refine aP e λr V e=>?_;refine aP e λb D e=>?_;show wpAny _ A (do
let v<-eval a1 w
standAt p let t<-holding [v] (truthy v)match og x,t with|.And,false|.Or,true=>pure v|_,_=>boolOp p (og x) (evalEach (a3::Ys) w)) Q E s;refine bT (a4 A E s T R G h L w r.1 r.2 _ V a λC M W Y i q o j d=>bT (ma (bT (gV ?_))));refine wY (q:=l) (j:=r.2) (v:=b) (λI P u c g O f y K=>?_) λN B=>wT (s:={s with heap:=Y,toks:=i}) D o d B;cases K;have J:=λe=>a2 A E _ P u r.2 h L w v Z Q p e ((a.d q o j).d O f y) ((k.o j q).o y O);have U:some r=some (v,Z)->wpAny (model l.a l.b) A (pure C) Q E {s with heap:=c,toks:=g}:=λe=>by exact fa ((kH e k) C P u c g (ac q O) f (j.e y) (d.F y.d y.b))
 clear a2;induction x<;>(clear D;induction b)<;>first|exact J e|exact U e
theorem aX.P{m}(q:k_ j u g w o d m):aX j u g w (.BoolOp (og o) d p) m:=λA E s c f t r b z v y i e a k=>q A E s c f t r b z v y i p e a k
variable(j d c f)in def lb(p:Bool)(t:List Expr)(m:ao->cM Bool):Prop:=∀A E s F w g o L z v y Q,m o g=some (v,y)->cJ j d c f A z L F w g o s->j.f sq F w g s v y Q->wpAny (model j.a j.b) A (allTrue (og p) t z) Q E s
theorem lb.u:lb w o d c z [] (λO y=>some (z,y)):=λA E s F f y m L j v g Q e a k=>by
 replace k:=kH e k;induction z;. exact wpAny_allTrue_Or_nil (k.t a.a rfl s.toks (aH _))
 . exact wpAny_allTrue_And_nil (k.t a.a rfl s.toks (aH _))
theorem lb.q{m n}(x:eL h G O nm a1 m)(a0:lb h G O nm l Ys n):lb h G O nm l (a1::Ys) (λb i=>(m b i).bind λr=>if r.1=l then n b r.2 else some r):=λA E s F Z i b L f v p Q e a k=>by
 refine aP e λr Y e=>?_;induction l
 . refine wpAny_allTrue_Or_cons (x A E s F Z i b L f r.1 r.2 _ Y a λU g y d o z w j c=>?_);subst c;split at e;. rename_i t;exact J t (a0 A E _ g y r.2 b L f v p Q e (a.d z w j) (k.o j z))
   . rename_i t;obtain rfl:r=(v,p):=ag e;have:v=true:=by simpa using t
     exact J (if_pos this) (k _ g y d o z w j this.symm)
 . refine wpAny_allTrue_And_cons (x A E s F Z i b L f r.1 r.2 _ Y a λU g y d o z w j c=>?_);subst c;split at e;. rename_i t;exact J t (a0 A E _ g y r.2 b L f v p Q e (a.d z w j) (k.o j z))
   . rename_i t;obtain rfl:r=(v,p):=ag e;have:v=false:=by simpa using t
     exact J (if_neg t) (k _ g y d o z w j this.symm)
theorem eL.q{m}(j:lb g o d c f t m):eL g o d c (.BoolOp (og f) t p) m:=λA E s F r b i L z l y Q e a k=>wpAny_isTrue_BoolOp (j A E s F r b i L z l y Q e a k)
section
variable(z:bW)
def hE(c:dd)(k:Nat)(f:Addr):Prop:=∀A E s g(y:List (Sem Value))Q,oS A (k+1)->wpAny (model z.a z.b) A (evalArgs (.ref f) true (y.map λt=>(false,t)) []) (λx j=>x.kw=[]/\∃F w o d v u,c k d o=some (v,u)/\z.c F w o j.heap/\z.g F w d x.pos/\0<j.toks/\z.f z.e F w o j v u Q) E s->wpAny (model z.a z.b) A (callWith g (.ref f) [] (y.map λt=>(false,t)) []) Q E s
structure fm(u:fK)(G:ds)(y q:Str->Option Value)(t:Nat->Addr):Prop where
d:z.d.Ns mainGlobals y
b:z.d.Ns builtinsNs q
j:∀k v,G k=some v->∃w,y (bK u.b k)=some w/\z.e (λa=>z.d.get? a) [] v w
i:∀k,k<u.a.length->y (bK u.a k)=some (.ref (t k))e:∀b:lM,y b.e=none/\q b.e=some (yT b)c:y "range"=none/\q "range"=some (.type "range")g:y "enumerate"=none/\q "enumerate"=some (.type "enumerate")h:∀r l s(x m:Addr)p n(f:Nat)v Q,(∀a o,z.d.get? a=some o->s.heap.get? a=some o)->s.heap.get? x=some (instObj z.h m)->s.heap.get? m=some (rh p n)->getL (cj f) p=some (some v)->f<4->handedIn v=true->Q v {s with toks:=s.toks+1}->wpAny (model z.a z.b) r (getAttr (.ref x) (cj f) true) Q l s
end
def gH(z:Scope)(x:Str):Bool:=decide (z.names.lookup x=some .globalImplicit)&&!(x==("__debug__":Str))
def eE(z:Scope)(x:Str):Bool:=decide (z.names.lookup x=some .local)&&!(x==("__debug__":Str))
section
variable{z:bW}
theorem aF.r(y:z.c u g w h):∀a o,z.d.get? a=some o->h.get? a=some o:=λa o q=>y.b a o (y.j a o q)
theorem DO{v}{g}{Q:Value->Shared->Prop}(w:fm z p G u t r)(q:hF y d L)(c:∀a o,z.d.get? a=some o->s.heap.get? a=some o)(j:gH d x=true)(f:u x=some v)(h:Q v s):wpAny (model z.a z.b) k (eval (.Name x m) y) Q g s:=by unfold gH at j;rw [fy,sG,mb]at j;refine qB (by exact J q.a q.c) (by refine(?_:y.scope.names.lookup x=_);exact J q.a j.1) ?_ j.2;exact loadGlobal_global (mg:=u) (by exact J q.f (w.d.keeps c)) f h
theorem DN{v}{c}{Q:Value->Shared->Prop}(u:fm z r G g w k)(y:hF q f L)(d:∀a o,z.d.get? a=some o->s.heap.get? a=some o)(j:gH f x=true)(m:g x=none)(p:w x=some v)(h:Q v s):wpAny (model z.a z.b) b (eval (.Name x t) q) Q c s:=by unfold gH at j;rw [fy,sG,mb]at j;refine qB (by exact J y.a y.c) (by refine(?_:q.scope.names.lookup x=_);exact J y.a j.1) ?_ j.2;exact loadGlobal_builtin (mg:=g) (mb:=w) (by exact J y.f (u.d.keeps d)) m (by exact J y.h (u.b.keeps d)) p h
theorem aX.ad(y:fm z q G r b i)(g:gH w (bK q.b k)=true):aX z l w n (.Name (bK q.b k) p) (λx j=>(G k).map λv=>(v,j)):=by intro A E s h Y j J U o v d C e a c;refine cb e λu f e=>?_;cases e;refine D (y.j k v f) λM m t=>?_;refine DO y a.c (aF.r a.a) g m (c.t a.a ?_ s.toks (aH _));exact t.F a.a.j (List.nil_prefix)
theorem tq{w}(o:fX z b i l u w){d}{v}{Q}(e:w c g=some (v,q))(a:cJ z b i l m j L p t g c s)(k:z.f z.g p t g s v q (λn r=>Q ⟨n,[]⟩ r)):wpAny (model z.a z.b) m (evalArgs f true (u.map λy=>(false,eval y j)) []) Q d s:=by have h:=o.2.2 m d s p t g c L j v q _ e a k;clear o;induction u using List.casesOn with|nil=>refine bT (fx h (λY r Z=>?_) λO O x=>x);refine bT (fa ?_);exact gV (bT (fa (bT (fa (fa Z)))))|cons y u=>exact nk h
theorem Ea(j:List Expr)q:(j.map λy=>(false,eval y q))=((j.map λy=>eval y q).map λt=>(false,t)):=by exact J di rfl
theorem qb(q:List Expr)j:(q.map λy=>(false,eval y j)).any (λO=>O.1)=false:=by induction q with|nil=>rfl|cons y q u=>simpa using u
theorem aX.Q{f}(m:fm z o G a9 b0 a7)(hk:k<o.a.length)(a8:gH t (bK o.a k)=true)(b:k+1<=i)(hc:hE z Φ k (a7 k))(l:fX z i t nm Ys f):aX z i t nm (.Call (.Name (bK o.a k) b1) Ys [] p) (λn x=>(f n x).bind λr=>Φ k r.1 r.2):=by intro A E s M T x n V Y v d U e a D;refine aP e λr C e=>?_;refine qC (DO m a.c (aF.r a.a) a8 (m.i k hk) ?_);rw [l.1.a,Ea];refine hc A E s p _ U ⟨a.f.a,bl (ng b A.depth) a.f.b,ac (cX (nl 10 b) A.units) a.f.c⟩ (J (Ea _ _).symm ?_);refine tq l C a λB j q h c y u g w=>?_;exact⟨rfl,j,q,r.2,r.1,v,d,e,u,w,bl a.h y,D.o g y⟩
theorem aX.L{h}(l:fm z b0 G b1 b2 b3)(a7:gH sc b.e=true)(a8:fX z a9 sc nm o h):aX z a9 sc nm (.Call (.Name b.e b4) o [] p) (λρ σ=>(h ρ σ).bind λr=>(f' r.2 b r.1).map λv=>(v,r.2)):=by
 intro A E s B I σ ρ N q v D C e a k;refine aP e λr M e=>?_;refine cb e λu Y e=>?_;refine qC (DN l a.c (aF.r a.a) a7 (l.e b).1 (l.e b).2 ?_);rw [a8.1.a];have j:∀f,f=yT b->wpAny (model z.a z.b) A (evalArgs f true (o.map λy=>(false,eval y q)) []) (λx d=>wpAny (model z.a z.b) A (PySem.call f ([]++x.pos) x.kw) C E d) E s:=λf T=>by refine J T (tq a8 M a λH U n c g w m t i=>?_);exact mI ((ij e k).o t w) λQ' V=>Hp (s:={s with heap:=c,toks:=g}) a.f.a Y m i V
 clear e Y a7;clear e;induction b with|a=>exact mc (qb o q) (j _ rfl)|d=>exact mc (qb o q) (j _ rfl)|b=>exact sH (qb o q) (j _ rfl)|c=>exact sH (qb o q) (j _ rfl)
theorem JS(g:te u)(w:u.length<29)j q:((backTo j (starEach u q)).all (λx=>!x.1)&&(backToKw j (keywordEach [] q)).all (λx=>x.1.isSome)&&decide (u.length+([]:List Keyword).length+(if([]:List Keyword).isEmpty then 0 else 1)<30))=true:=by
 rw [g.a];have o:(u.map λy=>(false,eval y q)).all (λx=>!x.1)=true:=by simp
 have d:(backToKw j (keywordEach [] q)).all (λx=>x.1.isSome)=true:=rfl;rw [o,d];simp;exact bl w (by decide)
theorem aX.Z{m}{a7}(hb:∀y,attributeBase n f.R y (eval n y)=eval n y)(a9:(b0.endLine==p.line)=true)(b1:aX z a8 sc nm n m)(x:fX z a8 sc nm Ys a7):aX z a8 sc nm (.Call (.Attribute n f.R b0) Ys [] p) (λh G=>(m h G).bind λr=>if ek r.2 f r.1 then(a7 h r.2).bind λq=>cN q.2 f r.1 q.1 else none):=by
 intro A E s M T G h V y v B b2 e a k;refine aP e λr I e=>?_;split at e;. rename_i N;refine aP e λq H e=>?_;refine xX (hb y) (JS x.1 x.2.1.1 p y) a9 (b1 A E s M T G h V y r.1 r.2 _ I a λrv D Y t d j g w o=>?_);refine bk (f.S) λf1 f2 f3=>?_;refine ae (NO (s:={s with heap:=t,toks:=d}) N g o) λt1 t2=>?_;refine(ax f.O f.P ⟨f1,f2,f3,t1,t2,?_⟩);rw [x.1.a];refine mc (qb Ys y) (tq x H (a.d j g w) λJ b3 U b c b9 i u l=>?_);exact mI (k.o (w.e u) (ac j b9)) λQ' k'=>NT (s:={s with heap:=b,toks:=c}) i (o.F u.d u.b) l k' e
 . exact C e
theorem Pk{a v}(e:mD a x y=some v):∃l c d,a=.a l/\x=[c]/\y=[d]/\c≠d/\v=.a (dQ c [d] l):=by
 refine aP e λl q e=>?_;refine aP e λc j e=>?_;refine aP e λd u e=>?_;by_cases h:c=d;. rw [if_pos h]at e;exact C e
 . rw [if_neg h]at e;exact(dK l c d ⟨V.o q,fO j,fO u,h,(ag e).symm⟩)
theorem Ez a b:∀l,(dQ a [b] l).length=l.length:=by intro y;induction y with|nil=>exact rfl|cons x l q=>refine J (Ey _ _ _ _) ?_;split<;>simp [q]
theorem Pl{t u v}{o}{Q}(f:z.c m p g s.heap)(r:u≠0)(b:v≠0)(y:u≠v)(q:c≠d)(w:l.length<=ak)(k:z.f z.e m p g s (.a (dQ c [d] l)) g Q):wpAny (model z.a z.b) i (PySem.call (.builtin "str.replace") [.str (Y l) t,.str (Y [c]) u,.str (Y [d]) v]) Q o s:=by
 refine mI k λn e=>?_;refine SC.replaceW (x:=Y l) (y:=Y [c]) (z:=Y [d]) r b y ?_ (by exact J (fE _) (ac w (by decide))) (by refine J (fE _) ?_;simp) λx j=>?_;. refine J (propext dA) ?_;intro h;rw [ke]at h;exact q (by simpa using h)
 . exact J (EB _ _ _) (e.ai f (hH (by refine J (Ez _ _ _) ?_;exact w)) j)
theorem aX.a3{m}(hb:∀j,attributeBase h "replace" j (eval h j)=eval h j)(a7:(a8.endLine==p.line)=true)(a9:aX z b0 sc nm h m):aX z b0 sc nm (.Call (.Attribute h "replace" a8) [.Constant (.str ⟨x.toArray⟩) b1 b2,.Constant (.str ⟨y.toArray⟩) b3 b4] [] p) (λG σ=>(m G σ).bind λr=>(mD r.1 x y).map λv=>(v,r.2)):=by intro A E s B I σ G N j v H b5 e a k;refine eo e λb6 o e1 e=>?_;refine cb e λu C e=>?_;replace k:=ij e k;refine hg (Pk C) λl c d M z2 z3=>?_;subst z2;refine ae z3 λz4 z5=>?_;subst z4;refine ae z5 λJ z6=>?_;subst z6;simp only at M;clear e C;clear e;subst M;refine xX (hb j) rfl a7 (a9 A E s B I σ G N j _ o _ e1 a λrv T U f q g w b i=>?_);refine D i λt z7 n=>?_;subst z7;refine(ax ("str") ("str.replace") ⟨lh,xY,xZ,jk _ _ _,λb7 e=>(by cases e),?_⟩);refine(?_:wpAny _ A (callWith p (.builtin "str.replace") [.str (Y l) t] [(false,eval (.Constant (.str (Y [c])) b1 b2) j),(false,eval (.Constant (.str (Y [d])) b3 b4) j)] []) b5 E _);refine mc rfl (nk (jl (nj (jl (nj (lY ?_))))));have V:=bl a.h g;refine Pl (s:={s with heap:=f,toks:=q+1+1}) w (by exact iG V) (by exact iG (bX V)) (by exact iJ (aH (Nat.succ q))) J n ?_;exact(k.o b g).o (p:=q+1+1) (cp.j w) (by exact bC (bw (Nat.succ q) 1))
end
section
variable{z:bW}
theorem bs.G{v}(r:z.e m p v q):handedIn q=true:=by induction v using V.casesOn with
|f a=>induction a with|c=>obtain rfl:q=_:=r;rfl|d=>obtain rfl:q=_:=r;rfl|b=>refine av r λO j=>?_;(refine J j ?_);rfl|a=>refine D r λO u O=>?_;(refine J u ?_);rfl
|i=>exact r.elim|d y=>refine bB r λO O O g O=>?_;(refine J g ?_);rfl|g y=>refine bB r λO O O w O=>?_;(refine J w ?_);rfl|e y=>refine bB r λO O O o O=>?_;(refine J o ?_);rfl|k y=>refine ja r λO O O O O d=>?_;refine ae d λc O=>?_;(refine J c ?_);rfl|c y=>refine D r λO f O=>?_;(refine J f ?_);rfl
theorem aX.K{m}(a8:fm z b2 G b3 b4 b5)(a9:f<4)(hb:∀q,attributeBase b (cj f) q (eval b q)=eval b q)(b0:aX z b1 sc nm b m):aX z b1 sc nm (.Attribute b (cj f) p) (λi l=>(m i l).bind λr=>match r.1 with|.k a7=>(a7[f]?).map λv=>(v,r.2)|_=>none):=by
 intro A E s M T l i V q v B b6 e a k;refine eo e λb7 h I e=>?_;dsimp only at e;split at e;. rename_i a7;refine cb e λu N e=>?_;refine J (arm_eval_Attribute _ _ _ _) (J (hb q) ?_);refine bT (b0 A E s M T l i V q _ _ _ I a λrv d w g j o y c t=>bT (ma (bT (gV ?_))));refine ja t λx H es n vs co=>?_;refine ae co λcC dq=>?_;refine J cC (hQ dq λq1 q2 q3 q4 q5=>?_);refine D (q3.P N) λY g1 U=>?_;exact a8.h A E {s with heap:=g,toks:=j} x H es n f Y _ (aF.r y) (y.b _ _ q1) (y.b _ _ q2) (q5 _ _ g1) a9 U.G (bT (wpAny_letTemporaryGo (fa ((ij e k) Y d w g (j+1) (bX o) y c U))))
 . exact C e
def vy:iy->Bool|.d l=>decide (l.length<=ak)|_=>true
theorem AS{j}{u}{Q:Value->Shared->Prop}(g:vy c=true)(h:∀y q,s.toks<=q->eK (pv c) y->Q y {s with toks:=q}):wpAny u o (eval (.Constant c.f d p) w) Q j s:=by induction c with|b=>exact wpAny_Constant_none (h _ s.toks (aH _) rfl)|a b=>exact wpAny_Constant_bool (h _ s.toks (aH _) rfl)|c i=>exact qA (h _ _ (e_ _) ⟨_,rfl⟩)|d l=>exact nj (h _ _ (e_ _) ⟨_,rfl,bt g⟩)
def vz(c:kj):Bool:=vy c.b&&vy c.d&&jD (pv c.b)
theorem NZ{p}:∀(l:List kj)(s:Shared)(Q:List (Value×Value)->Shared->Prop),l.all vz=true->(∀u y g,s.toks<=g->Carries (eQ z.a z.b) u y->dX (eR l) y->y.map (λO=>O.1)=(eR l).map (λO=>O.1)->Q u {s with toks:=g})->wpAny (model z.a z.b) L (evalPairs (l.map λc=>(eval c.a w,do let x<-eval c.c w;standAt t;pure x))) Q p s:=by intro r;induction r with|nil=>intro s Q O h;exact evalPairs_nil (h [] [] s.toks (aH _) trivial rfl rfl)|cons c l v=>intro s Q j h;rw [jj,fy]at j;refine ae j λj k=>?_;unfold vz at j;rw [fy,fy]at j;refine ae j λb e=>?_;refine ae b λi n=>?_;refine J dU (evalPairs_cons (AS i λC g a Z=>?_));refine bT (AS n λd o Y U=>bT (ma (fa ?_)));refine v _ _ k λu y q G W D f=>?_;have m:=po (y:=z.a) (w:=z.b) e Z;refine h _ ((pv c.b,d)::y) q (ac (ac a Y) G) ⟨m.1,rfl,W⟩ (ax d y ⟨rfl,⟨U,m.2⟩,D⟩) ?_;simp [eR]at f⊢;exact f
theorem DX:∀{d:List (aD×aD)},gu d=true->(d.map (λO=>O.1)).Nodup:=by intro q;induction q with|nil=>intro O;exact md|cons e d j=>intro h;have h:=ch (G:=(d.any λy=>y.1=e.1)=false/\gu d=true) h λa b=>⟨(mb _).mp a,b⟩;refine J dU (J (propext hX) ?_);refine⟨λu=>?_,j h.2⟩;refine D (cG.mp u) λy g w=>?_;have:=List.any_eq_false.mp h.1 y g;simp [w]at this
theorem QO{z:bW}{s:Shared}(y:∃o,z.d.get? sysModules=some o)(q:∀a o,z.d.get? a=some o->s.heap.get? a=some o):(s.heap.objs.size==sysModules)=false:=by refine av y λo e=>?_;refine J (propext dA) ?_;intro h;have:=q _ _ e;rw [<-h,gc]at this;exact C this
theorem aX.X(w:∃o,z.d.get? sysModules=some o)(t:l.all vz=true)(y:l.length<=15)(j:gu (eR l)=true):aX z a7 sc nm (.Dict (l.map λc=>some c.a) (l.map kj.c) p) (λi n=>eU G (.e (eR l)) n):=by intro A E s a8 φ n ρ a9 q v U b0 e a k;have r:=QO (s:=s) w (aF.r a.a);cases m:l with|nil=>clear j y t;subst m;refine wpAny_Dict_empty (D (jh.mp (Heap.DictOf.new (knd:=eQ z.a z.b) s.heap)) λo g d=>?_);exact Cc (s:=s) (y:=[]) e a.a k d rfl (by simp [eR]) r (λb M f=>gZ _ f) (gc _) g (aH _)|cons c l'=>
refine J m.symm (wpAny_Dict_pairs (knd:=eQ z.a z.b) (pairs:=l.map λc=>(eval c.a q,do let x<-eval c.c q;standAt p;pure x)) ?_ (by refine J m ?_;simp) (by simpa using y) ?_);. clear e k j y t r a m;induction l with|nil=>rfl|cons c l T=>exact aJ (List.cons (some (eval c.a q),do let x<-eval c.c q;standAt p;pure x)) T
. refine NZ l _ _ t λvs u tk V B I N=>?_;refine⟨u,B,?_,λh' Y H=>?_⟩;. exact Heap.DictOf.new (knd:=eQ z.a z.b) s.heap
  . have hn:(u.map (λi=>i.1)).Nodup:=by exact J N (DX j)
    rw [merged_nil_of_nodup u hn]at Y;refine D (jh.mp Y) λo g d=>?_;refine Cc (s:=s) e a.a k d I (by simp [eR];exact ac y (by decide)) r (λb M f=>?_) (gc _) g ?_
    . have hb:b≠s.heap.objs.size:=λh=>by subst h;rw [gc]at f;exact C f
      exact(H.2 b hb).trans (gZ _ f)
    . exact ac V (bw _ _)
end
structure dv(w:List Addr)(v:aw)(z:List Addr)(y:af)(h:Heap)(x:aw)(Q:List Addr)(u:af)(G:Heap):Prop where
f:v.a x
b:z<+:Q
m:z.length=y.length
p:∀a∈z,∃o,h.get? a=some o
d:∀(i:Nat)(a:Addr),Q[i]?=some a->z.length<=i->h.get? a=none
e:∀(a:Addr)(o:Obj),h.get? a=some o->a∉w->(∀(i:Nat)(c:V),z[i]?=some a->y[i]?=some c->c=V.i)->G.get? a=some o
k:∀a∈w,∀o,h.get? a=some o->∃O,G.get? a=some O
j:∀i:Nat,y[i]?=some V.i->u[i]?=some V.i
l:∀a o,x a=some o->v a=some o\/h.get? a=none\/a∈z
section
variable{z:Addr}
theorem cp.p(x:cp w g f h t v y Q)(G:∀a∈L,a∉g):dv L w g f h t v y Q:=⟨x.d,x.b,x.r,x.s,x.l,λa o u O q=>x.k a o u q,λa Z o u=>⟨o,x.k a o u λi c Y O=>absurd (cq Y) (G a Z)⟩,x.n,x.m⟩
theorem dv.s(x:dv w c v i h Q G y O)(L:∀a∈w,h.get? a=none):cp c v i h Q G y O:=⟨x.f,x.b,x.m,x.p,x.d,λa o u Z=>x.e a o u (λY=>C ((L a Y).symm.trans u)) Z,x.j,x.l⟩
theorem dv.g(x:dv a0 a2 G σ h L w Q v)(y:dv a0 L w Q v a3 a4 a1 a5):dv a0 a2 G σ h a3 a4 a1 a5:=by
 have I:=x.m;have N:∀a o,h.get? a=some o->a∉G->∃R,v.get? a=some R:=λa o u W=>by
  by_cases D:a∈a0;. exact x.k a D o u
  . exact⟨o,x.e a o u D λi c Y O=>absurd (cq Y) W⟩
 have V:∀a,a∉G->v.get? a=none->h.get? a=none:=λa W u=>by induction S:h.get? a with|none=>rfl|some o=>refine av (N a o S W) λR U=>?_;exact C (u.symm.trans U)
 refine⟨x.f.j y.f,x.b.trans y.b,x.m,x.p,λi a u Z=>?_,λa o u D W=>?_,λa K o u=>?_,λi u=>y.j i (x.j i u),λa o u=>?_⟩
 . by_cases F:w.length<=i;. have B:=y.d i a u F;refine V a (λM=>?_) B;refine av (x.b) λP X=>?_;subst X;refine av (y.p a (iK _ M)) λo U=>?_;exact C (B.symm.trans U)
   . refine x.d i a ?_ Z;refine av (y.b) λP A=>?_;subst A;replace u:=(iI (gA F)).symm.trans u;exact u
 . refine y.e a o (x.e a o u D W) D λi c Y U=>?_;by_cases Z:G.length<=i;. have:=x.d i a Y Z;exact C (this.symm.trans u)
   . have Z:=gA Z;clear y;refine av (x.b) λP H=>?_;subst H;replace Y:=(iI Z).symm.trans Y;have hs:∃T,σ[i]?=some T:=⟨_,cH (I▸Z)⟩;refine av hs λT E=>?_;have:=W i T Y E;subst this;have:=x.j i E;replace U:=this.symm.trans U;exact J (ag U) rfl
 . refine av (x.k a K o u) λo1 Y=>?_;exact y.k a K o1 Y
 . rcases y.l a o u with u|u|u;. exact x.l a o u
   . by_cases M:a∈G;. exact .inr (.inr M)
     . exact .inr (.inl (V a M u))
   . obtain⟨i,Z,rfl⟩:=sy u;by_cases F:G.length<=i;. exact .inr (.inl (x.d i _ (cH Z) F))
     . refine .inr (.inr ?_);refine av (x.b) λP z5=>?_;subst z5;exact J (sz (gA F)) (oC _)
theorem dv.r{L:List Addr}(x:dv a1 a3 φ σ h u v Q w)(a4:∀a∈L,h.get? a=none)(hk:∀a0 o,a0∉L->w.get? a0=some o->a5.get? a0=some o)(a6:u.a a2)(a7:∀a o,a2 a=some o->u a=some o\/w.get? a=none):dv a1 a3 φ σ h a2 v Q a5:=by
 have Y:∀a o,h.get? a=some o->a∉L:=λa o y J=>C ((a4 a J).symm.trans y);refine⟨x.f.j a6,x.b,x.m,x.p,x.d,λa o y U Z=>hk a o (Y a o y) (x.e a o y U Z),λa F o y=>?_,x.j,λa o y=>?_⟩;. refine av (x.k a F o y) λW G=>?_;exact⟨W,hk a W (Y a o y) G⟩
 . rcases a7 a o y with Z|Z;. exact x.l a o Z
   . by_cases J:a∈φ;. exact .inr (.inr J)
     . induction G:h.get? a with|none=>exact .inr (.inl rfl)|some D=>
by_cases U:a∈a1;. refine av (x.k a U D G) λT M=>?_;exact C (Z.symm.trans M)
. exact C (Z.symm.trans (x.e a D G U λi c P O=>absurd (cq P) J))
theorem aF.v{n:List Addr}(q:aF u w z g a0 φ σ h)(a2:∀a∈n,a0 a=none/\a∉φ)(hk:∀a1 o,a1∉n->h.get? a1=some o->a3.get? a1=some o):aF u w z g a0 φ σ a3:=by have U:∀a o,a0 a=some o->a∉n:=λa o y Y=>C (((a2 a Y).1).symm.trans y);have f:∀a∈φ,a∉n:=λa s Y=>(a2 a Y).2 s;exact⟨λa o y=>hk a o (U a o y) (q.b a o y),q.j,q.d,q.l,λa s=>(q.e a s).imp λo y=>hk a o (f a s) y,λi a c J D=>(q.k i a c J D).z (aw.a.i _) dt (λF=>F) λo y=>hk a o (f a (cq J)) y⟩
end
structure kV(z:bW)(n:Around)(G:Expr)(w:Addr)(q:List Addr)(a0:List V)(a1:aw)(a3:List Addr)(j:Nat->Heap->Prop):Prop where
c:∀i h y,j i h->(∀b,(b∈q\/∃o,a1 b=some o)->∀o,h.get? b=some o->y.get? b=some o)->j i y
f:∀i(s:Shared)m p σ x u(Q:Value->Shared->Prop),a0[i]?=some x->j i s.heap->z.c m p σ s.heap->a1.a m->a3<+:p->(∀b∈q,m b=none/\b∉p)->(∀b∈q,∃o,s.heap.get? b=some o)->(∀a2 t y L,j (i+1) y->z.c t p σ y->m.a t->(∀a o,t a=some o->m a=some o\/s.heap.get? a=none)->(∀b o,b∉q->s.heap.get? b=some o->y.get? b=some o)->(∀b∈q,t b=none/\∃o,y.get? b=some o)->z.e t p x a2->Q a2 {s with heap:=y,toks:=L})->wpAny (model z.a z.b) n (pyNext (.ref w)) (λr k=>∃v,r=some v/\wpAny (model z.a z.b) n (letOwnedTupleGo G (.ref w) v) (λO l=>Q v l) u k) u s
g:∀i(s:Shared)u(Q:Value->Shared->Prop),j i s.heap->Q (.ref w) s->wpAny (model z.a z.b) n (pyIter (.ref w)) Q u s
d:∀(s:Shared)u(Q:Option Value->Shared->Prop),j a0.length s.heap->(∀y L,(∀b o,b∉q->s.heap.get? b=some o->y.get? b=some o)->Q none {s with heap:=y,toks:=L})->wpAny (model z.a z.b) n (pyNext (.ref w)) Q u s
theorem kV.e{m:bW}{O:Around}{y:Expr}{z}{L}{n}{a0}{r}{l}{G}{a1}(q:Walks m.a m.b O z L [z] n a0 r)(j:∀b∈L,b=z\/∃o,G b=some o)(a2:n=l.length)(a3:∀i h,r i h->∃o,h.get? z=some o)(a4:∀i v x,a0 i v->l[i]?=some x->m.e G a1 x v)(u:∀v,letOwnedTupleGo y (.ref z) v=pure ()):kV m O y z [z] l G a1 r where
c:=λi h Z k w=>q.frame i h Z k λb t o Y=>w b (by rcases j b t with rfl|h;(. exact .inl (.head _));exact .inr h) o Y;f:=λi s F V K x E Q W k S M U D P h=>by
 have T:i<n:=by exact J a2 ((bo.mp W).1)
 refine q.item i s _ E T k λv Z R p C w=>⟨v,rfl,?_⟩;refine J (u v) (fa (h v F Z R C (S.v D w) (aw.a.i _) (λa o Y=>.inl Y) w (λb t=>?_) ((a4 i v x p W).F M U)));clear w h P u j q;obtain rfl:b=z:=by simpa using t
 exact⟨(D b t).1,a3 _ _ C⟩
g:=λi s E Q k h=>q.self i s Q E k h;d:=λs E Q k h=>q.done s Q E (a2▸k) h
section
variable{z:Value->Shared->Prop}
def nE(w:bW)(m:Around)(g:Expr)(p:List V)(s:Shared)(t:aw)(r:List Addr)(v y:af)(Q:Value->Shared->Prop):Prop:=∀I d c j u q f,s.toks<=f->w.c j u y q->cp t r v s.heap j u y q->kV w m g I d p j u c->c 0 q->(∀b∈d,j b=none/\b∉u/\s.heap.get? b=none/\∃o,q.get? b=some o)->Q (.ref I) {s with heap:=q,toks:=f}
theorem He{G}{Q}(a0:L.handled=none)(f:∀a1 v,letOwnedTupleGo m (.ref a1) v=pure ())(j:d.c t l σ s.heap)(r:d.e t l (.d G) a2)(k:nE d L m G s t l σ σ Q):wpAny (model d.a d.b) L (pyIter a2) Q z s:=by
 refine bB r λc Y n W F=>?_;subst W;refine bk F λg q R=>?_;have a:=eh (j.b _ _ g);refine wpAny_pyIter_list a ?_;have Z:=gc s.heap;have u:c≠s.heap.objs.size:=λh=>by have:=j.b _ _ g;rw [h,Z]at this;exact C this
 refine ae (Mp.aF.x j {cls:=.type "list_iterator",data:=.fields #[.ref c,.int 0 0]}) λU x=>?_;refine k _ [s.heap.objs.size] _ t l _ s.toks (aH _) U x (kV.e (Walks.list a0 s.heap.objs.size c u Y.toArray) (λb w=>?_) (by simp [q.K]) (λi h k=>?_) (λi v y p e=>?_) (λv=>f _ v)) ?_ λb w=>?_
 . refine dF w ?_ λw=>?_;. exact .inl rfl
   . clear x U u a;obtain rfl:b=c:=by simpa using w
     exact .inr ⟨_,g⟩
 . refine D (k.1) λo M O=>?_;exact⟨o,M⟩
 . refine D (q.P e) λV P T=>?_;have:Y[i]?=some v:=by simpa using p
   exact J (ag (this.symm.trans P)) T
 . exact⟨⟨_,gj _ rfl,rfl,rfl⟩,a.push _⟩
 . obtain rfl:b=s.heap.objs.size:=by simpa using w
   exact⟨j.L,j.p Z,Z,_,gj _ rfl⟩
theorem LN(r:dX d y):∀{i:Nat}{k:aD}{x:Value},y[i]?=some (k,x)->∃e,d[i]?=some e/\e.1=k/\pJ k:=by induction d generalizing y with|nil=>intro i k x e;cases r;exact C e|cons e d u=>obtain⟨v,l,rfl,g,w⟩:=r;intro i k x j;induction i using Nat.casesOn with|zero=>simp at j;refine ae j λo c=>?_;subst o;subst c;exact⟨e,rfl,rfl,g.2⟩|succ i=>simp at j;refine D (u w j) λf p q=>?_;exact⟨f,by simpa using p,q⟩
theorem Ge{v}(h:oM k v=true)(y:pJ k):eK k v:=by revert y;exact mp h (λi t O=>⟨t,rfl⟩) λs t y=>⟨t,rfl,y⟩
theorem Hc{Q}(a0:L.handled=none)(a:∀a1 v,letOwnedTupleGo G (.ref a1) v=pure ())(m:j.c t l σ s.heap)(r:j.e t l (.e d) a2)(k:nE j L G (nw d) s t l σ σ Q):wpAny (model j.a j.b) L (pyIter a2) Q z s:=by
 refine bB r λw o u M P=>?_;subst M;refine hQ P λg T q W hl=>?_;have n:=m.b _ _ g;refine gN T λR Z V K B E=>?_;refine ae E λI N=>?_;have Y:s.heap.DictAt (eQ j.a j.b) w u Z:=(ax o R ⟨n,V,K,B,I,N⟩);refine wpAny_pyIter_dict W Y ?_;have U:=gc s.heap;have c:w≠s.heap.objs.size:=λh=>by rw [h,U]at n;exact C n
 refine ae (Mp.aF.x m {cls:=.type "dict_keyiterator",data:=.fields #[.ref w,.int 0 0,.int u.length 0,.int Z 0]}) λF x=>?_;refine k _ [s.heap.objs.size] _ t l _ s.toks (aH _) F x (kV.e (Walks.dictKeys (knd:=eQ j.a j.b) a0 s.heap.objs.size w c u Z) (λb f=>?_) (by simp [nw,q.f]) (λi h k=>?_) (λi v y p e=>?_) (λv=>a _ v)) ?_ λb f=>?_
 . refine dF f ?_ λf=>?_;. exact .inl rfl
   . clear x F c Y n W;obtain rfl:b=w:=by simpa using f
     exact .inr ⟨_,g⟩
 . refine D (k.1) λo S O=>?_;exact⟨o,S⟩
 . refine bg p λka xv X A=>?_;refine gn (LN q X) λH q1 q2 q3=>?_;unfold nw at e;rw [hw,q1]at e;refine J (ag e).symm (?_:j.e t l (.f H.1) v);exact J q2 (q' (Ge A q3))
 . exact⟨⟨_,gj _ rfl,rfl,rfl⟩,Y.at' λo e=>gZ _ e⟩
 . obtain rfl:b=s.heap.objs.size:=by simpa using f
   exact⟨m.L,m.p U,U,_,gj _ rfl⟩
theorem BA{n:Nat}{q}{t u v}{Q}(a0:G.handled=none)(j:∀a1 v,letOwnedTupleGo g (.ref a1) v=pure ())(o:d.c O L σ s.heap)(a2:IsRange s.heap r a b c t u v)(f:Builtin.Range.small a b c=true)(m:Builtin.Range.rangeSize a b c=n)(a3:n=q.length)(a4:∀(i:Nat)(y:V),q[i]?=some y->y=.b (a+(i:Int)*c))(k:nE d G g q s O L σ σ Q):wpAny (model d.a d.b) G (pyIter (.ref r)) Q z s:=by
 refine wpAny_pyIter_range a2 f ?_;have Z:=gc s.heap;refine ae (Mp.aF.x o {cls:=.type "range_iterator",data:=.fields #[rawInt a,rawInt (Builtin.Range.rangeSize a b c),rawInt c]}) λY x=>?_;refine k _ [s.heap.objs.size] _ O L _ s.toks (aH _) Y x (kV.e (Walks.range a0 s.heap.objs.size a c n) (λb l=>.inl (by simpa using l)) a3 (λi h k=>⟨_,k⟩) (λi w y p e=>?_) (λv=>j _ v)) ?_ λb l=>?_;. refine av p λt U=>?_;subst U;exact J (a4 i y e) f_
 . have W:a+(0:Nat)*c=a:=by simp
   have D:(n-(0:Nat))=Builtin.Range.rangeSize a b c:=by refine J m ?_;simp
   refine J W (J D ?_);exact gj _ rfl
 . obtain rfl:b=s.heap.objs.size:=by simpa using l
   exact⟨o.L,o.p Z,Z,_,gj _ rfl⟩
theorem Hd{v}{n}{Q}(b3:a8.handled=none)(b4:a0.c a1 φ σ s.heap)(a4:IsEnum s.heap e m 0 .none)(a2:s.heap.IsListIter m l 0)(g:a1 l=some (fq a3 n))(q:a0.g a1 φ v a3)(b6:v.length<=2*ak)(L:e≠m)(a9:a1 e=none/\e∉φ)(b0:a1 m=none/\m∉φ)(k:∀b1,kV a0 a8 (.Tuple b2 b7 p) e [e,m] (jO v) a1 φ b1->b1 0 s.heap->Q (.ref e) s):wpAny (model a0.a a0.b) a8 (pyIter (.ref e)) Q z s:=by
 refine wpAny_pyIter_enum a4 ?_;have P:l≠e:=λh=>by rw [h,a9.1]at g;exact C g
 have T:l≠m:=λh=>by rw [h,b0.1]at g;exact C g
 refine k (λi h=>(∃r,IsEnum h e m (i:Nat) r)/\h.IsListIter m l i/\h.get? l=some (fq a3 n)) ⟨λi h h' K I=>?_,λi f F' aq N x E' Q' M K S hF X A H h=>?_,λi f E' Q' K h=>?_,λf E' Q' K h=>?_⟩ ⟨⟨_,a4⟩,a2,(b4.b _ _ g)⟩;. refine bk K λcC dq W=>?_;refine av cC λr U=>?_;refine D dq λo G J8=>?_;exact⟨⟨r,I e (.inl (.head _)) _ U⟩,⟨o,I m (.inl (.tail _ (.head _))) _ G,J8⟩,I l (.inr ⟨_,g⟩) _ W⟩
 . refine bk K λdZ G W=>?_;refine av dZ λr U=>?_;have hi:i<v.length:=by have:=(bo.mp M).1;simpa [jO]using this
   have F5:v[i]?=some v[i]:=cH hi;refine D (q.P F5) λrv v1 v2=>?_;have hv:a3.toArray[i]?=some rv:=by simpa using v1
   have a5:x=.g [.b i,v[i]]:=by have hz:((List.range v.length).zip v)[i]?=some (i,v[i]):=sI.mpr ⟨List.getElem?_range hi,F5⟩;unfold jO at M;rw [hw,hz]at M;simpa using M.symm
   have V:=gc f.heap;have Z:∀b o,f.heap.get? b=some o->b≠f.heap.objs.size:=λb o e u=>by rw [u,V]at e;exact C e
   refine wpAny_pyNext_enum_item U G (eh W) hv L λR FI oT F b5 Y=>⟨_,rfl,?_⟩;refine wpAny_letOwnedTupleGo_enum FI λd qQ y=>?_;have y:Heap.SameBut e R d:=y;have FF:e≠f.heap.objs.size:=Z e _ U;have a6:m≠f.heap.objs.size:=by refine D G λo ho O=>?_;exact Z m _ ho
   have t:∀b o,b∉[e,m]->f.heap.get? b=some o->d.get? b=some o:=λb o u eb=>by simp only [List.mem_cons,List.not_mem_nil,or_false,not_or]at u;exact(y.2 b u.1).trans (Y b o u.1 u.2 eb)
   have w:=Mp.aF.v S (n:=[e,m]) (a3:=d) A t;have B:F' f.heap.objs.size=none:=S.m V;have im:a0.c (F'.c f.heap.objs.size (kQ [.int i f.toks,rv] 0)) aq N d:=by
    refine⟨λb E e=>?_,λb E e=>aw.e B b E (w.j b E e),w.d,w.l,w.e,λj b c e1 e2=>?_⟩
    . by_cases u:b=f.heap.objs.size;. subst u;rw [aw.d]at e;exact J (ag e).symm ((y.2 _ (fv FF)).trans F)
      . rw [aw.b u]at e;exact w.b b E e
    . have u:b≠f.heap.objs.size:=λx=>(S.p V) (x▸cq e1);exact(w.k j b c e1 e2).z (aw.e B) dt (λx=>by exact(aw.b u).trans x) (λO e=>e)
   refine h _ _ d _ ⟨⟨rv,?_⟩,oT.extBut y.extBut (fv L),t l _ (by simp [P,T]) W⟩ im (aw.e B) (λa o ea=>?_) t (λb u=>?_) ?_
   . have:(i+1:Nat)=i+1:=by push_cast;rfl
     exact J this qQ
   . by_cases u:a=f.heap.objs.size;. exact .inr (by exact J u V)
     . rw [aw.b u]at ea;exact .inl ea
   . clear P a9;clear t Y FI U h H k a4;refine dF u ?_ λu=>?_;. exact⟨by exact(aw.b FF).trans ((A _ (.head _)).1),_,qQ⟩
     . clear qQ G T b0 a2;obtain rfl:b=m:=by simpa using u
       refine D (oT.extBut y.extBut (fv L)) λo ho O=>?_;exact⟨by exact(aw.b a6).trans ((A _ (.tail _ (.head _))).1),o,ho⟩
   . exact J a5 (dK _ _ 0 ⟨rfl,aw.d,(ax _ _ ⟨rfl,⟨_,rfl⟩,_,_,rfl,v2.F (hF.j (aw.e B)) X,rfl⟩),by simp [ak]⟩)
 . refine bk K λd6 G W=>?_;refine av d6 λr U=>?_;exact wpAny_pyIter_enum U h
 . refine bk K λeZ G W=>?_;refine av eZ λr U=>?_;have hn:(jO v).length=a3.length:=by simp [q.K,jO]
   rw [hn]at U G;refine wpAny_pyNext_enum_end b3 U G (eh W) (by simp) λh' a7=>h h' f.toks λb o u eb=>?_;exact a7 b o (λM=>u (by simp [M])) eb
end
section
variable{z:bW}
theorem nE.F{p}{Q}(k:nE z t d p s r v e c Q)(x:cp r v e s.heap g q j y)(i:s.toks<=u)(f:∀a,y.get? a=none->s.heap.get? a=none):nE z t d p {s with heap:=y,toks:=u} g q j c Q:=λI l n h Z Y J m U G W O w=>k I l n h Z Y J (ac i m) U (x.e G) W O λb o=>⟨(w b o).1,(w b o).2.1,f b (w b o).2.2.1,(w b o).2.2.2⟩
theorem rj(w:z.c u q j y)(x:cp v d k h u q j y):∀a,y.get? a=none->h.get? a=none:=λa e=>by induction f:h.get? a with|none=>rfl|some o=>
have g:a∉d:=λg=>by refine av (x.b) λr m=>?_;subst m;refine av (w.e a (iK _ g)) λb p=>?_;exact C (e.symm.trans p)
exact C (e.symm.trans (x.k a o f λi c t O=>absurd (cq t) g))
variable(z p t r)in def gz(g:Expr)(y:Nat)(v:Expr)(m:ao->cM (List V)):Prop:=∀A E s F o w d k q c j f Q,m d w=some (c,j)->gs y c=some f->cJ z p t r A q k F o w d s->nE z A g f s F o w j Q->wpAny (model z.a z.b) A (eval v q) (λx u=>wpAny (model z.a z.b) A (pyIter x) Q E u) E s
theorem L_{q y}(h:Ds q=some y):∃v,q=[v]/\(v=.d y\/∃d,v=.e d/\y=nw d):=by refine D (kB h) λv j e=>?_;refine⟨v,fO j,?_⟩;induction v using V.casesOn with|d l=>exact .inl (by exact J (ag e) rfl)|e d=>exact .inr ⟨d,rfl,(ag e).symm⟩|_=>exact C e
theorem Ma{y q}(h:ul y=some q):∃n,y=[.b n]/\(-(ak:Int)<=n/\n<ak)/\q=ou n:=by refine D (kB h) λv j e=>?_;refine D (kB e) λn u e=>?_;refine ae (wz e) λg e=>?_;exact⟨n,by refine(fO j).trans (J (V.m u) ?_);rfl,g,(ag e).symm⟩
theorem Mb{y q}(h:Dt y=some q):∃a,y=[.b a,.b (-1),.b (-1)]/\(-(ak:Int)<=a/\a<ak)/\q=oQ a (-1):=by refine D (kB h) λp u e=>?_;refine D (kB e) λa g e=>?_;refine D (kB e) λb w e=>?_;refine D (kB e) λc o e=>?_;refine ae (wz e) λd e=>?_;refine kS d λf m j t=>?_;exact⟨a,by refine(xt u).trans (J (V.m g) ?_);refine J (V.m w) ?_;refine J (V.m o) ?_;refine J j (J t ?_);rfl,⟨f,m⟩,by refine J (ag e).symm (J j ?_);rfl⟩
theorem Mc{y q}(h:Du y=some q):∃j,y=[.d j]/\q=jO j:=by refine D (kB h) λv u e=>?_;refine D (wx e) λl g w=>?_;exact J w.symm ⟨l,by refine(fO u).trans ?_;refine J (V.t g) ?_;rfl,rfl⟩
theorem gz.O{m}(o:∀a0 v,letOwnedTupleGo c (.ref a0) v=pure ())(a1:aX z a2 sc nm a3 m):gz z a2 sc nm c 0 a3 (λf p=>(m f p).bind λr=>(some ([],r.2):Option (List V×af)).map λq=>(r.1::q.1,q.2)):=by
 intro A E s F Y p f U t R W B Q e l a k;refine D (kB e) λC n e=>?_;obtain⟨v,g⟩:=C;refine D (wx e) λq M e=>?_;clear e;refine J (ag M) ?_;cases e;refine a1 A E s F Y p f U t v g _ n a λI x b h i w y j u=>?_;have Z:=k.F j w (rj y j);refine D (L_ l) λN P T=>?_;cases P;clear k l n;clear e;rcases T with rfl|⟨d,rfl,rfl⟩;. exact He a.f.a o y u Z
 . exact Hc a.f.a o y u Z
theorem vU{j}{u}{g}{v}{Q}(m:fm z a3 G p t a4)(r:gH w x=true)(b:p x=none)(i:t x=some (.type j))(o:fX z l w n d u)(e:u h c=some (v,q))(a:cJ z l w n f y L O φ c h s)(k:z.f z.g O φ c s v q (λa0 a1=>wpAny (model z.a z.b) f (PySem.call (.type j) a0) Q g a1)):wpAny (model z.a z.b) f (eval (.Call (.Name x a5) d [] a2) y) Q g s:=by refine qC (DN m a.c (aF.r a.a) r b i ?_);rw [o.1.a];exact sH (qb d y) (tq o e a k)
theorem RC{n}{i:Nat}{y}(h:(ou n)[i]?=some y):y=.b (0+(i:Int)*1):=by unfold ou at h;rw [hw]at h;refine D (fI.mp h) λj q g=>?_;refine J g.symm ?_;obtain⟨w,u⟩:=bo.mp q;simp at u;clear h q;subst u;simp
theorem Jt{a b}{i:Nat}{y}(h:(oQ a b)[i]?=some y):y=.b (a+(i:Int)*(-1)):=by
 unfold oQ at h;rw [hw]at h;refine D (fI.mp h) λj q g=>?_;refine J g.symm ?_;obtain⟨w,u⟩:=bo.mp q;simp at u;clear h q;subst u;have:a-i=a+i*(-1):=by lia
 exact J this rfl
theorem RY a:Builtin.Range.rangeSize a (-1) (-1)=((a-(-1)).toNat:Int):=by unfold Builtin.Range.rangeSize;simp only [show¬((-1)>0)by decide,if_false,Int.neg_neg,Int.ediv_one];split<;>lia
theorem gz.K{a0}(f:fm z a5 a6 a7 a8 a9)(a1:gH sc "range"=true)(m:∀a2 v,letOwnedTupleGo r (.ref a2) v=pure ())(a3:fX z a4 sc nm Ys a0):gz z a4 sc nm r 1 (.Call (.Name "range" b0) Ys [] p) a0:=by
 intro A E s F D C M P Y T J R Q e U a k;refine vU f a1 f.c.1 f.c.2 a3 e a λV Z b o q w d j c=>?_;obtain⟨n,rfl,l,rfl⟩:=Ma U;obtain⟨_,_,rfl,⟨t,rfl⟩,rfl⟩:=c;refine call_range_1 ?_;obtain⟨u,g⟩:=Mp.aF.x d {cls:=.type "range",data:=.fields #[.int 0 q,.int n t,.int 1 (q+1)]};have W:=k.F (u:=q+1+1) (j.e g) (bX (bX w)) (rj u (j.e g));have x:Builtin.Range.rangeSize 0 n 1=n.toNat:=by refine(rangeSize_one _ _).trans ?_;split<;>lia
 refine BA (s:={s with heap:=_,toks:=q+1+1}) a.f.a m u (r:=o.objs.size) (gj _ rfl) (small_one (by decide) (by decide) ?_ ?_) x (by simp [ou]) (λi y h=>RC h) W;. unfold ak at l;lia
 . unfold ak at l;exact lW l.right (by decide)
theorem gz.G{a2}(x:fm z a7 a8 a9 b0 b1)(a3:gH sc "range"=true)(a0:∀a4 v,letOwnedTupleGo a1 (.ref a4) v=pure ())(a5:fX z a6 sc nm Ys a2):gz z a6 sc nm a1 2 (.Call (.Name "range" b2) Ys [] p) a2:=by
 intro A E s F M P T R U V W B Q e D a k;refine vU x a3 x.c.1 x.c.2 a5 e a λI Y Z f q o m j r=>?_;obtain⟨n,rfl,⟨b,c⟩,rfl⟩:=Mb D;obtain⟨_,_,rfl,⟨t,rfl⟩,_,_,rfl,⟨u,rfl⟩,_,_,rfl,⟨C,rfl⟩,rfl⟩:=r;refine call_range_3 (by decide) ?_ (Or.inl (PyProof.noPylong_of_log2 (by decide+kernel)));obtain⟨g,w⟩:=Mp.aF.x m {cls:=.type "range",data:=.fields #[.int n t,.int (-1) u,.int (-1) C]};have l:=RY n;refine BA (s:={s with heap:=_,toks:=q}) a.f.a a0 g (r:=f.objs.size) (gj _ rfl) ?_ l (by simp [oQ]) (λi y h=>Jt h) (k.F (u:=q) (j.e w) o (rj g (j.e w)));unfold Builtin.Range.small;refine J l ?_;simp only [Builtin.Range.rangeFitsLong,Bool.and_eq_true,Bool.or_eq_true,decide_eq_true_eq,beq_iff_eq,show¬((-1)>0)by decide,if_false];unfold ak at b c;have d:(-2^63)<=-1/\(-1)<2^63:=by decide
 have t:(n- -1).toNat<=1000000:=Int.toNat_le.mpr (by rw [Int.sub_neg];exact c);exact⟨⟨⟨⟨⟨oD (by decide) b,Int.lt_trans c (by decide)⟩,d⟩,d⟩,oD (by decide) (fw _),Int.lt_of_le_of_lt (g_.mpr t) (by decide)⟩,.inr (by decide)⟩
theorem gz.L{a0}(h:fm z a6 a7 a8 a9 b0)(a1:gH sc "enumerate"=true)(a2:fX z a3 sc nm Ys a0):gz z a3 sc nm (.Tuple t a4 a5) 3 (.Call (.Name "enumerate" b1) Ys [] p) a0:=by
 intro A E s F N S X H W vs D xs Q e C a k;refine vU h a1 h.g.1 h.g.2 a2 e a λhZ r f j u m y d v=>?_;obtain⟨ys,rfl,rfl⟩:=Mc C;obtain⟨_,_,rfl,⟨ad,us,n,rfl,g,q,M⟩,rfl⟩:=v;have P:=y.b _ _ g;refine call_enumerate_1 P λY J i hz T=>?_;have l:=gc j;have w:j.get? (j.objs.size+1)=none:=yl (e_ _);obtain⟨c,x⟩:=Mp.aF.t y T;refine Hd (b2:=t) (b7:=a4) (p:=a5) (s:={s with heap:=Y,toks:=u}) a.f.a c J i g q M (by exact iG (aH (Nat.succ (Array.size j.objs)))) ⟨y.m w,y.p w⟩ ⟨y.m l,y.p l⟩ λR V B=>?_;refine k _ _ R r f Y u m c (d.e x) V B λb Z=>?_;have U:=rj y d;refine dF Z ?_ λZ=>?_;. exact⟨y.m w,y.p w,U _ w,_,J⟩
 . obtain rfl:b=j.objs.size:=by simpa using Z
   obtain⟨o,I,_⟩:=i;exact⟨y.m l,y.p l,U _ l,o,I⟩
end
def gi(z:aw)(y:List Addr)(a:Addr):Prop:=z a=none/\a∉y
section
variable{z:Addr}
theorem dv.q(x:dv a0 Q c σ h v G O a1)(L:h.get? a=some o)(w:gi Q c a):gi v G a:=by
 have Z:h.get? a≠none:=by exact J L (λy=>C y.symm)
 refine⟨?_,λU=>?_⟩;. induction y:v a with|none=>rfl|some W=>
refine(x.l a W y).elim (λu=>?_) λD=>D.elim (λu=>?_) λu=>?_;. exact C (w.1.symm.trans u)
. exact absurd u Z
. exact absurd u w.2
 . obtain⟨i,F,y⟩:=sy U;by_cases Y:c.length<=i;. exact Z (x.d i a (by refine(cH F).trans ?_;exact J y rfl) Y)
   . refine av (x.b) λP M=>?_;subst M;rw [sz (gA Y)]at y;exact w.2 (y▸oC _)
theorem dv.n(x:dv y u w σ h a1 a2 v Q)(G:h.get? a=some o)(L:a∉y)(a0:gi u w a):Q.get? a=some o:=x.e a o G L λi c Z O=>absurd (cq Z) a0.2
theorem aF.W(u:aF f w z i a0 φ σ h)(a1:h.get? a=some o)(q:gi a0 φ a):aF f w z i (a0.c a o) φ σ h:=by
 refine⟨λy n g=>?_,λy n g=>aw.e q.1 y n (u.j y n g),u.d,u.l,u.e,λD y c U C=>?_⟩
 . by_cases s:y=a;. clear q;subst s;exact J (ag (aw.d.symm.trans g)).symm a1
   . exact u.b y n ((aw.b s).symm.trans g)
 . have s:y≠a:=λY=>q.2 (Y▸cq U);exact(u.k D y c U C).z (aw.e q.1) dt (λY=>by exact(aw.b s).trans Y) (λF g=>g)
theorem aF.S(u:aF g w z f a0 n σ h)(q:gi a0 n a)(hc:kU g w z a0 (n++[a]) h a c)(a1:c≠.i):aF g w z f a0 (n++[a]) (σ++[c]) h:=by
 refine⟨u.b,u.j,by simp [u.d],?_,λD s=>?_,λi D T o Y=>?_⟩;. exact J (propext iE) ⟨u.l,by simp,λM V y B=>by clear hc;refine J (bF.mp B) ?_;exactλC=>q.2 (C▸V)⟩
 . refine(cr.mp s).elim (λs=>?_) λs=>?_;. exact u.e D s
   . exact J (bF.mp s) (hc.ai a1)
 . by_cases U:i<n.length;. rw [iI U]at o;rw [iI (u.d▸U)]at Y;exact(u.k i D T o Y).z (aw.a.i _) (l_ ..) (λM=>M) (λE C=>C)
   . have F:i=n.length:=by have:=(bo.mp o).1;simp at this;exact gk (eB this) (g' U)
     clear U;subst F;rw [iF (aH _)]at o;rw [u.d,iF (aH _)]at Y;simp at o Y;refine J o.symm (J Y.symm ?_);exact hc
end
section
variable{z:bW}
theorem CF{s:Shared}{j g}{O u}{y k d}{h}{m}{l}{Q}{v}{a}{n}(e:eU m (.d l) k=some (v,d))(L:z.c g u k h)(x:dv [] j O y s.heap g u k h)(q:gi g u a)(a0:h.get? a=some (fq Q n))(a1:s.heap.get? a=none)(r:z.g g u l Q)(a2:l.length<=2*ak):∃w G,z.c w G d h/\dv [] j O y s.heap w G d h/\z.e w G v (.ref a)/\∀b,b≠a->gi g u b->gi w G b:=by
 unfold eU at e;have Z:∀w,g.a w->(∀b c,w b=some c->g b=some c\/b=a)->dv [] j O y s.heap w u k h:=λw t W=>⟨x.f.j t,x.b,x.m,x.p,x.d,x.e,x.k,x.j,λb c e=>by
refine(W b c e).elim (λp=>?_) λD=>?_;. exact x.l b c p
. subst D;exact .inr (.inl a1)⟩;split at e
 . refine lv e (ax g (u++[a]) ⟨(Mp.aF.S L (c:=.d l) q ⟨q.1,Q,n,a0,r.L (aw.a.i _) (l_ ..),a2⟩ (λe=>by cases e)),?_,?_,λb f o=>⟨o.1,by simp [o.2,f]⟩⟩)
   . refine⟨x.f,x.b.trans (l_ ..),x.m,x.p,λi b e U=>?_,x.e,x.k,λi e=>?_,x.l⟩
     . by_cases t:i<u.length;. rw [iI t]at e;exact x.d i b e U
       . have Y:i=u.length:=by have:=(bo.mp e).1;simp at this;exact gk (eB this) (g' t)
         clear t U;subst Y;rw [iF (aH _)]at e;simp at e;subst e;exact a1
     . have:=x.j i e;refine(iI (bo.mp this).1).trans ?_;exact this
   . exact⟨a,rfl,by refine J (aN L.d) (J (iF (aH _)) ?_);simp⟩
 . refine lv e (ax (g.c a _) u ⟨(Mp.aF.W L a0 q),Z _ (aw.e q.1) λb c e=>?_,?_,λb f o=>⟨by refine(aw.b f).trans ?_;exact o.1,o.2⟩⟩)
   . by_cases f:b=a;. exact .inr f
     . rw [aw.b f]at e;exact .inl e
   . exact(dK a Q n ⟨rfl,aw.d,r.L (aw.e q.1) dt,a2⟩)
theorem M4{u}{v}{n}{Q}(e:eU d (.d u) c=some (v,g))(m:z.c w o c h)(x:dv [] j p y s.heap w o c h)(q:gi w o a)(t:h.get? a=some (fq b n))(i:s.heap.get? a=none)(r:z.g w o u b)(l:u.length<=2*ak)(G:s.toks<=f)(k:z.f z.e j p y s v g Q):Q (.ref a) {s with heap:=h,toks:=f}:=by refine gN (CF e m x q t i r l) λZ Y J U W O=>?_;exact k _ Z Y h f G J (U.s (λO h=>by cases h)) W
variable(z d)in def kl(f:Scope)(p:List Str)(t:List Expr)(m:ao->cM Bool):Prop:=∀A E s F w g o L y v j Q,m o g=some (v,j)->cJ z d f p A y L F w g o s->z.f sq F w g s v j Q->wpAny (model z.a z.b) A (forIn t true λc r=>if r=true then do let k<-isTrue c y (eval c y);pure (ForInStep.yield k)else pure (ForInStep.yield r)) Q E s
theorem kl.q{j}:kl z o d j [] (λO y=>some (true,y)):=λA E s F c y f L g v w Q e a k=>by exact wpAny_tests_nil ((kH e k).t a.a rfl s.toks (aH _))
theorem kl.u{d}{m}(f:eL z p t d i m):kl z p t d [i] (λj g=>(m j g).bind λr=>if r.1 then some (true,r.2)else some (false,r.2)):=λA E s F l g j L w v y Q e a k=>by
 refine aP e λr c e=>?_;have:r=(v,y):=by clear c;obtain⟨b,o⟩:=r;induction b<;>(simp at e;refine ae e λn x=>?_;(refine J n ?_);(refine J x ?_);rfl)
 clear e;subst this;exact wpAny_tests_one (f A E s F l g j L w v y _ c a k)
variable(z)in structure jI(s:Shared)(u:aw)(n:List Addr)(y:af)(x v:List Addr)(Q:Nat->Heap->Prop)(w:aw)(q:List Addr)(G:Nat)(m:aw)(p:List Addr)(l:af)(t:Heap)(O:Nat):Prop where
b:s.toks<=O
g:Q G t
d:z.c m p l t
e:dv x u n y s.heap m p l t
c:w.a m
i:q<+:p
a:∀r∈v,gi m p r/\∃o,t.get? r=some o
f:∀r∈v,s.heap.get? r=none
end
section
variable{z:Nat}
theorem dv.t(x:dv i c G u v O L σ y)(hk:∀w o,w∉i->y.get? w=some o->Q.get? w=some o)(a0:∀w∈i,∀o,y.get? w=some o->∃h,Q.get? w=some h):dv i c G u v O L σ Q:=⟨x.f,x.b,x.m,x.p,x.d,λa o Z Y U=>hk a o Y (x.e a o Z Y U),λa J o Z=>by refine av (x.k a J o Z) λh W=>?_;exact a0 a J h W,x.j,x.l⟩
theorem jI.k{a4}{b0}{v}{a5}{Q:Value->Shared->Prop}(b3:kV G b1 a6 a4 a7 b0 l t b2)(p:jI G s a2 b4 L b5 a7 b2 l t a8 a9 φ σ a1 z)(b6:b0[a8]?=some v)(b7:∀a3 a0 u y,z<=y->jI G s a2 b4 L b5 a7 b2 l t (a8+1) a0 φ σ u y->a9.a a0->(∀m o,m∉a7->a1.get? m=some o->u.get? m=some o)->(∀m o,a1.get? m=some o->gi a9 φ m->gi a0 φ m)->G.e a0 φ v a3->Q a3 {s with heap:=u,toks:=y}):wpAny (model G.a G.b) b1 (pyNext (.ref a4)) (λr n=>∃v,r=some v/\wpAny (model G.a G.b) b1 (letOwnedTupleGo a6 (.ref a4) v) (λO w=>Q v w) a5 n) a5 {s with heap:=a1,toks:=z}:=by
 refine fx (wpAny_toks_of (s:={s with heap:=a1,toks:=z}) (n:=z) (aH _) (b3.f a8 {s with heap:=a1,toks:=z} a9 φ σ v a5 (λv w=>z<=w.toks->Q v w) b6 p.g p.d p.c p.i (λZ Y=>(p.a Z Y).1) (λZ Y=>(p.a Z Y).2) λa3 a0 u y J U D M P T r W=>?_)) (λr n F=>?_) (λO O x=>x.2);. refine b7 a3 a0 u y W ⟨ac p.b W,J,U,p.e.r p.f P D M,p.c.j D,p.i,λZ Y=>⟨⟨(T Z Y).1,(p.a Z Y).1.2⟩,(T Z Y).2⟩,p.f⟩ D (λm o=>P m o) (λm o R q=>⟨?_,q.2⟩) r;induction V:a0 m with|none=>rfl|some K=>
refine(M m K V).elim (λp=>?_) λp=>?_;. exact C (q.1.symm.trans p)
. have p:a1.get? m=none:=p;exact C (p.symm.trans R)
 . obtain⟨B,v,rfl,F⟩:=F;exact⟨v,rfl,ni B (fx F (λO O q W=>q W) λO O q O=>q)⟩
theorem jI.h{a8}{a9}(b0:kV Q b5 b1 a8 G a9 m u a1)(p:jI Q s v b2 t O G a1 m u a2 b3 φ σ a3 z)(x:dv O b3 φ σ a3 a4 a5 l L)(a6:Q.c a4 a5 l L)(a7:∀y∈G,y∉O)(b4:z<=a0):jI Q s v b2 t O G a1 m u a2 a4 a5 l L a0:=by
 refine⟨ac p.b b4,b0.c a2 a3 L p.g λy w o r=>?_,a6,p.e.g x,p.c.j x.f,p.i.trans x.b,λy w=>?_,p.f⟩
 . refine w.elim (λw=>?_) λY=>?_;. exact x.n r (a7 y w) (p.a y w).1
   . refine av Y λn w=>?_;have Z:=p.d.b y n (p.c y n w);have U:=a6.b y n (x.f y n (p.c y n w));replace r:=Z.symm.trans r;clear Z w;exact J (ag r).symm U
 . obtain⟨q,o,r⟩:=p.a y w;exact⟨x.q r q,o,x.n r (a7 y w) q⟩
theorem jI.j{a8 v}{a9}(b0:kV a3 b5 b1 a8 a0 a9 l m a4)(p:jI a3 s G b2 n a5 a0 a4 l m a6 a7 φ σ t z)(q:gi a7 φ v)(a1:v∉a0)(x:∀y o,y≠v->t.get? y=some o->L.get? y=some o)(b3:∃o,L.get? v=some o)(Q:v∈a5\/s.heap.get? v=none)(b4:z<=a2):jI a3 s G b2 n a5 a0 a4 l m a6 a7 φ σ L a2:=by
 have Z:∀y o,y∉[v]->t.get? y=some o->L.get? y=some o:=λy o u w=>x y o (by simpa using u) w;refine⟨ac p.b b4,b0.c a6 t L p.g λy u o w=>?_,Mp.aF.v p.d (n:=[v]) (λy u=>by exact J (bF.mp u) q) Z,?_,p.c,p.i,λy u=>?_,p.f⟩
 . refine u.elim (λu=>?_) λU=>?_;. exact x y o (λt=>a1 (t▸u)) w
   . obtain⟨W,u⟩:=U;refine x y o (λt=>?_) w;have:=p.c y W u;rw [t,q.1]at this;exact C this
 . refine Q.elim (λQ=>?_) λQ=>?_
   . refine p.e.t (λy o u w=>x y o (λt=>u (t▸Q)) w) λy u o w=>?_;by_cases Y:y=v;. clear Q Z x a1 q;exact J Y b3
     . exact⟨o,x y o Y w⟩
   . exact p.e.r (L:=[v]) (λy u=>by exact J (bF.mp u) Q) Z (aw.a.i _) (λO O w=>.inl w)
 . obtain⟨r,o,w⟩:=p.a y u;exact⟨r,o,x y o (λt=>a1 (t▸u)) w⟩
end
section
variable{z:bW}
inductive nv(z:bW)(s:Shared)(v:aw)(k:List Addr)(j:af)(b:List Addr)(e:Nat->Heap->Prop)(u:aw)(y:List Addr)(f p:Addr)(l:ao->cM V)(Q:ao->cM Bool)(d G:List V)(q:af)(n:Nat)(O:Shared):Prop|a(i:Nat)(h:Heap)(t:Nat)(w:aw)(o:List Addr)(r:af)(g:List Value)(m:Nat)(L:Str->Option Value)(c:List V)(_:O={s with heap:=h,toks:=t})(_:n=d.length+1-i)(_:i<=d.length)(_:jI z s v k j [] b e u y i w o r h t)(_:gi w o f)(_:h.get? f=some (fq g m))(_:z.g w o c g)(_:c.length<=ak)(_:gi w o p)(_:h.Ns p L)(_:fL (λx j=>l [some x] j) (λx j=>Q [some x] j) (d.drop i) c r=some (G,q))
theorem ud{i n}(h:i<n):n+1-(i+1)<n+1-i:=ha (bX h) (aH (Nat.succ i))
theorem M0{q:Type}{y}{u:q}(h:y.length<ak):(y++[u]).length<=ak:=by exact J dN h
theorem AR{nm}{b9}{b2}{b3}{f0}(c4:∀y∈q.names,y.2≠.cell)(a4:q.kind=.function)(f2:q.names.lookup x=some .local)(e2:gz z e1 sc nm (.Name x d0) b9 Yi f0)(hc:kl z e1 q [x] b4 b3)(f3:aX z e1 q [x] b5 b2){d1}{e3 a0 b0}{d2:Value->Env->Result->Shared->Prop}(f4:f0 ρ σ=some (e3,a5))(f5:gs b9 e3=some a0)(f6:fL (λx σ=>b2 [some x] σ) (λx σ=>b3 [some x] σ) a0 [] a5=some (b0,d))(a:cJ z e1 sc nm a1 w L b6 φ σ ρ s)(e4:∀f g h tk c0 b1 l m f1,s.toks<=tk->z.c c0 b1 d h->dv [] b6 φ σ s.heap c0 b1 d h->gi c0 b1 f->h.get? f=some (fq l m)->z.g c0 b1 b0 l->b0.length<=ak->gi c0 b1 g->h.Ns g f1->f≠g->s.heap.get? f=none->s.heap.get? g=none->d2 (.ref f) (compEnv q g w) (.ok .next) {s with heap:=h,toks:=tk}):wpAny (model z.a z.b) a1 (eval Yi w) (λd3 t=>wpAny (model z.a z.b) a1 (pyIter d3) (λa6 a2=>wpAny (model z.a z.b) a1 (newList []) (λd4 Q=>wpAny (model z.a z.b) a1 (newFunctionEnv q w.globals [] [] w.qual none .none (some w)) (λc1 a3=>codeAny (model z.a z.b) a1 (.compStart (.ListComp b5 [⟨.Name x d0,Yi,b4,0⟩] q p) 0 a6 d4 {c1 with scope:=q}) (d2 d4 {c1 with scope:=q}) a3) d1 Q) d1 a2) d1 t) d1 s:=by
 refine e2 a1 d1 s b6 φ σ ρ L w e3 a5 a0 _ f4 f5 a λI B Kp Y k Z S c5 F c2 a6 k0 hw=>?_;refine wpAny_newList ?_ (by simp);refine wpAny_newFunctionEnv c4 (by intro y hy;exact(fY hy).elim) (λU d5 vq=>?_) a4;dsimp only at d5 vq⊢;generalize hD:Z.objs.size=f at*;have u8:Z.get? f=none:=by exact J (aN hD) (gc _)
 generalize hH:Z.push {cls:=.type "list",data:=.seq ([]).toArray}=H at*;generalize hC:H.objs.size=g at*;have qO:∀b o,Z.get? b=some o->H.get? b=some o:=λb o e=>by exact J (aN hH) (gZ _ e)
 have oO:H.get? f=some (fq [] 0):=by refine J (aN hH) (J (aN hD) ?_);exact gj _ rfl
 have qM:H.get? g=none:=by exact J (aN hC) (gc _)
 have u7:Z.get? g=none:=by induction e:Z.get? g with|none=>rfl|some o=>replace qM:=(qO _ _ e).symm.trans qM;exact C qM.symm
 have c6:f≠g:=λh=>by replace oO:=h▸oO;replace oO:=qM▸oO;exact C oO
 have Fk:∀b o,H.get? b=some o->U.get? b=some o:=λb o e=>vq.extBut b o (λh=>by replace e:=h▸e;replace e:=qM▸e;exact C e) (gZ _ e);have vl:∀b o,Z.get? b=some o->U.get? b=some o:=λb o e=>Fk b o (qO b o e);refine ae (Mp.aF.t F vl) λd6 d7=>?_;have nb:=rj F c2;have QE:∀b∈B,b≠f:=λb R h=>by obtain⟨_,_,_,o,T⟩:=hw b R;replace T:=h▸T;replace T:=u8▸T;exact C T
 have QD:∀b∈B,b≠g:=λb R h=>by obtain⟨_,_,_,o,T⟩:=hw b R;replace T:=h▸T;replace T:=u7▸T;exact C T
 have mJ:s.heap.get? g=none:=nb _ u7;have mL:s.heap.get? f=none:=nb _ u8;have zB:g∉B:=λhm=>QD g hm rfl;have zG:f∉B:=λhm=>QE f hm rfl;have PX:hF (compEnv q g w) q g:=⟨rfl,a4,rfl,a.c.f,a.c.h⟩;have c7:nv z s b6 φ σ B Kp Y k f g b2 b3 a0 b0 d (a0.length+1) {s with heap:=U,toks:=S+([]:List (Str×Value)).length}:=by refine⟨0,U,_,Y,k,a5,[],0,_,[],rfl,rfl,eT _,⟨c5,a6.c 0 Z U k0 λb O o e=>vl b o e,d6,(c2.e d7).p (λO h=>by cases h),aw.a.i _,dt,λb R=>?_,λb R=>(hw b R).2.2.1⟩,⟨F.m u8,F.p u8⟩,Fk _ _ oO,by simp only [bW.g,Mp.be],by simp,⟨F.m u7,F.p u7⟩,d5,by simpa using f6⟩;obtain⟨p1,p2,p3,o,p4⟩:=hw b R;exact⟨⟨p1,p2⟩,o,vl b o p4⟩
 have d8:∀(E:Value->Shared->Prop)n s',nv z s b6 φ σ B Kp Y k f g b2 b3 a0 b0 d n s'->wpAny (model z.a z.b) a1 (pyNext (.ref I)) (λr t=>match r with|none=>d2 (.ref f) (compEnv q g w) (.ok .next) t|some v=>wpAny (model z.a z.b) a1 (assign (.Name x d0) (compEnv q g w) v) (λO a2=>wpAny (model z.a z.b) a1 (forIn b4 true λc r=>if r=true then do let c8<-isTrue c (compEnv q g w) (eval c (compEnv q g w));pure (ForInStep.yield c8)else pure (ForInStep.yield r)) (λc8 Q=>if c8=true then wpAny (model z.a z.b) a1 (eval b5 (compEnv q g w)) (λx a3=>wpAny (model z.a z.b) a1 (PySem.call (.builtin "list.append") [.ref f,x]) (λO X=>∃m,m<n/\nv z s b6 φ σ B Kp Y k f g b2 b3 a0 b0 d m X) E a3) E Q else∃m,m<n/\nv z s b6 φ σ B Kp Y k f g b2 b3 a0 b0 d m Q) E a2) E t) E s':=by
  rintro E n s'⟨i,h,tk,c0,b1,fe,l,m,f1,ys,rfl,rfl,e2,lp,Fp,zC,hr,d9,Fm,zy,P⟩;obtain⟨oC,zW⟩:∃o,h.get? g=some o:=by refine bB zy λo O O T O=>?_;exact⟨o,T⟩
  refine(qk i a0.length).elim (λN=>?_) λe0=>?_
  . have hd:a0.drop i=a0[i]::a0.drop (i+1):=dT N;replace P:=hd▸P;refine eo P λb ty f7 P=>?_;refine fx (lp.k a6 (cH N) (Q:=λv t=>wpAny (model z.a z.b) a1 (assign (.Name x d0) (compEnv q g w) v) (λO a2=>wpAny (model z.a z.b) a1 (forIn b4 true λc r=>if r=true then do let c8<-isTrue c (compEnv q g w) (eval c (compEnv q g w));pure (ForInStep.yield c8)else pure (ForInStep.yield r)) (λc8 Q=>if c8=true then wpAny (model z.a z.b) a1 (eval b5 (compEnv q g w)) (λx a3=>wpAny (model z.a z.b) a1 (PySem.call (.builtin "list.append") [.ref f,x]) (λO X=>∃m,m<a0.length+1-i/\nv z s b6 φ σ B Kp Y k f g b2 b3 a0 b0 d m X) E a3) E Q else∃m,m<a0.length+1-i/\nv z s b6 φ σ B Kp Y k f g b2 b3 a0 b0 d m Q) E a2) E t) λf8 e5 A a7 g2 rQ zI a8 K c9=>?_) (λr t hr=>by refine D hr λv z5 hr=>?_;exact J z5 (bT (f:=λO=>assign (.Name x d0) (compEnv q g w) v) hr)) (λO O h=>h);have qN:=K g _ zW Fm;have Fq:=K f _ zC Fp;have Qh:=iu zy (g:=A) λo e=>a8 g o zB e;refine sJ (ql (f2) Qh (λG gY iD=>?_) (by simp [compEnv,a4]));have iD:Heap.SameBut g A G:=iD;have gY:G.Ns g _:=gY;obtain⟨f9,FW⟩:∃o,G.get? g=some o:=by refine bB gY λo O O T O=>?_;exact⟨o,T⟩
    have G7:=rQ.j a6 (L:=G) (a2:=a7+1) qN zB (λb o R e=>(iD.2 b R).trans e) ⟨_,FW⟩ (.inr mJ) (e_ _);have Fo:G.get? f=some (fq l m):=(iD.2 f c6).trans (a8 f _ zG zC);have t9:cJ z e1 q [x] a1 (compEnv q g w) g e5 b1 fe [some a0[i]] {s with heap:=G,toks:=a7+1}:=by refine⟨PX,a.f,G7.d,⟨rfl,⟨_,gY,λj y u ej eu=>?_⟩,qN.2,qN.1⟩,qm _⟩;induction j using Nat.casesOn with|zero=>simp at ej eu;subst ej eu;exact⟨f8,by simp,c9⟩|succ j=>exact C ej
    refine hc a1 E _ e5 b1 fe _ g _ b ty _ f7 t9 λrb iT js M a9 lu jz jp VC=>?_;cases VC;have s5:dv [] e5 b1 fe G iT js ty M:=jp.p (λO h=>by cases h);have pp:=G7.h a6 s5 jz (λO O h=>by cases h) lu;have zF:=s5.q Fo Fq;have zD:=s5.n Fo (by simp) Fq;have zA:=s5.q FW qN;have zV:=iu gY (g:=M) λo e=>s5.n e (by simp) qN;have F0:z.g iT js ys l:=hr.L (zI.j jp.d) jp.b;dsimp only at P;induction R:b with|false=>replace P:=R▸P;exact(⟨_,ud N,i+1,M,a9,iT,js,ty,l,m,_,ys,rfl,rfl,N,pp,zF,zD,F0,d9,zA,zV,P⟩)|true=>
 replace P:=R▸P;refine eo ((if_pos rfl).symm.trans P) λu CG g0 P=>?_;refine eI P λF6 P=>?_
 . have KY:=t9.d (o:=M) (G:=a9) lu jz jp;refine f3 a1 E _ iT js ty _ g _ u CG _ g0 KY λru xt CH W V Qy Kv Cd Wq=>?_;have s6:dv [] iT js ty M xt CH CG W:=Cd.p (λO h=>by cases h);have SI:=pp.h a6 s6 Kv (λO O h=>by cases h) Qy;have Fs:=s6.q zD zF;have zE:=s6.n zD (by simp) zF;obtain⟨g1,Qj⟩:∃o,M.get? g=some o:=by refine bB zV λo O O T O=>?_;exact⟨o,T⟩
   have PH:=s6.q Qj zA;have Qi:=iu zV (g:=W) λo e=>s6.n e (by simp) zA;have Qt:z.g xt CH (ys++[u]) (l++[ru]):=(F0.L Cd.d Cd.b).Q (be.S Wq);have hz:l.toArray.size=ys.length:=by simp [hr.K]
   refine ks (s:={s with heap:=W,toks:=V}) yp (eh zE).typeIs PySem.F.entry_list_append (PySem.F.args_list_append_2 _ _) (list_append f l.toArray m ru (by exact J hz (rv F6))) ⟨zE,?_⟩;have b7:=(show PySem.IsL W f l.toArray m from zE).update (λx=>x.push ru);have e6:l.toArray.push ru=(l++[ru]).toArray:=by simp
   replace b7:=e6▸b7;have FN:∀b o,b≠f->W.get? b=some o->(W.update f (Obj.mapSeq λx=>x.push ru)).get? b=some o:=λb o R e=>((Heap.SameBut.update (h:=W) (a:=f) ..).2 b R).trans e;have SJ:=SI.j a6 (v:=f) (a2:=V) Fs zG FN ⟨_,b7⟩ (.inr mL) (aH _);exact⟨_,ud N,i+1,_,V,xt,CH,CG,l++[ru],_,_,ys++[u],rfl,rfl,N,SJ,Fs,b7,Qt,M0 F6,PH,iu Qi λo e=>FN g o (fv c6) e,P⟩
  . have qS:i=a0.length:=gk e2 e0;replace P:=(nd e0)▸P;have qq:=ey (ag P);refine fx (wpAny_toks_of (s:={s with heap:=h,toks:=tk}) (n:=tk) (aH _) (a6.d {s with heap:=h,toks:=tk} E (λr t=>tk<=t.toks->r=none/\d2 (.ref f) (compEnv q g w) (.ok .next) t) (qS▸lp.g) λh' e7 b8 e8=>?_)) (λr t hq=>?_) (λO O x=>x.2);. have Qg:=iu zy (g:=h') λo e=>b8 g o zB e;have S':=Mp.aF.v lp.d (n:=B) (a3:=h') (λb R=>(lp.a b R).1) b8;have x':=lp.e.r (L:=B) (a5:=h') (a2:=c0) lp.f b8 (aw.a.i _) (λO O e=>.inl e);exact⟨rfl,e4 f g h' e7 c0 b1 l m _ (ac lp.b e8) (qq.2▸S') (qq.2▸x') Fp (b8 f _ zG zC) (qq.1▸hr) (qq.1▸d9) Fm Qg c6 mL mJ⟩
    . refine ae hq λh1 hq=>?_;refine ae (hq h1) λz4 e9=>?_;exact J z4 e9
 have c3:codeAny (model z.a z.b) a1 (.compLoop (.ListComp b5 [⟨.Name x d0,Yi,b4,0⟩] q p) 0 (.ref I) (.ref f) (compEnv q g w)) (d2 (.ref f) (compEnv q g w)) {s with heap:=U,toks:=S+([]).length}:=codeAny_compLoop_tests (nv z s b6 φ σ B Kp Y k f g b2 b3 a0 b0 d) (λn s' h=>d8 _ n s' h) (a0.length+1) c7;exact codeAny_compStart_list c3 (a6.g 0 _ _ _ (a6.c 0 Z U k0 λb O o e=>vl b o e) c3)
theorem aX.S{nm}{f}{b0}{b1}{b2}(t:∀y∈j.names,y.2≠.free)(i:∀y∈j.names,y.2≠.cell)(u:j.kind=.function)(d:∀y∈j.names,y.2=.local->j.names.lookup y.1=some .local)(b5:j.names.lookup x=some .local)(hs:∀l v,foldedSetIterable Yi l v=pure v)(b6:gz z a7 sc nm (.Name x b7) f Yi b2)(hc:kl z a7 j [x] a8 b1)(b8:aX z a7 j [x] a9 b0):aX z a7 sc nm (.ListComp a9 [⟨.Name x b7,Yi,a8,0⟩] j p) (λρ n=>(b2 ρ n).bind λr=>(gs f r.1).bind λb3=>(fL (λx n=>b0 [some x] n) (λx n=>b1 [some x] n) b3 [] r.2).bind λq=>eU b4 (.d q.1) q.2):=by intro A E s c2 φ n ρ c3 l v H N e a k;refine eo e λvs D e1 e=>?_;refine aP e λb3 e2 e=>?_;refine eo e λzs C e3 e=>?_;refine wpAny_ListComp t u d (AR (d2:=λM w r U=>∃m,U.heap.Ns w.locals m/\∀T,Heap.SameBut w.locals U.heap T->match r with|.ok _=>N M {U with heap:=T}|.error x=>wpAny (model z.a z.b) A (passOn "comprehension.variables-let-go" x w) N E {U with heap:=T}) i u b5 b6 hc b8 e1 e2 e3 a λDa G h tk F' aq b9 m mm ht c0 x o g r hl oc ns V mL mJ=>?_) (hs l);refine⟨mm,ns,λc B=>?_⟩;have B:Heap.SameBut G h c:=B;have I:∀b o,b∉[G]->h.get? b=some o->c.get? b=some o:=λb o Y e=>(B.2 b (by simpa using Y)).trans e;exact M4 (s:=s) e (Mp.aF.v c0 (n:=[G]) (a3:=c) (λb Y=>by exact J (bF.mp Y) oc) I) (x.r (L:=[G]) (a5:=c) (a2:=F') (λb Y=>by exact J (bF.mp Y) mJ) I (aw.a.i _) (λc1 c1 e=>.inl e)) o (I Da _ (by simp [V]) g) mL r (ac hl (by decide)) ht k
end
section
variable(z:bW)
def oU(q:aw)(j:List Addr):eM->Flow->Prop|.a,f=>f=.next|.c,f=>f=.cont|.b v,f=>∃y,f=.ret y/\z.e q j v y
def bW.i{p:Type}(v:List Str)(L:Addr)(k:aw->List Addr->p->Prop)(l:aw)(n:List Addr)(x:af)(s:Shared)(m:ao)(y:af)(Q:p->Shared->Prop):Prop:=∀t q u w r,s.toks<=r->z.c q u y w->dv [L] l n x s.heap q u y w->z.j q u L v m w->k q u t->Q t {s with heap:=w,toks:=r}
end
section
variable{q:bW}{z:Env}{g:Nat}
theorem cJ.i(y:cJ q r v o n z L G O σ ρ s)(x:s.toks<=g)(Q:q.c m p u t)(l:q.j m p L o w t):cJ q r v o n z L m p u w {s with heap:=t,toks:=g}:=⟨y.c,y.f,Q,l,bl y.h x⟩
theorem bW.i.o{O:Type}{G}{Q:O->Shared->Prop}(k:q.i nm L G a0 φ σ s t v Q)(x:dv [L] a0 φ σ s.heap m y u p)(a1:s.toks<=w):q.i nm L G m y u {s with heap:=p,toks:=w} t v Q:=λZ Y J U g n W D l r=>k Z Y J U g (ac a1 n) W (x.g D) l r
theorem cJ.e(m:cJ q l n Q G z L u w o O s)(x:cp u w o s.heap p t y r):dv [L] u w o s.heap p t y r:=x.p λZ v=>by exact J (bF.mp v) m.b.a
theorem bW.j.k(l:q.j p t L r v y):∃o,y.get? L=some o:=by refine D (l.c) λm u O=>?_;refine bB u λo O O w O=>?_;exact⟨o,w⟩
theorem cJ.j(u:cJ q Q G O a0 z L p t r ρ s)(n:Heap.SameBut L s.heap m)(x:∃o,m.get? L=some o):q.c p t r m/\dv [L] p t r s.heap p t r m:=by have v:∀y o,y∉[L]->s.heap.get? y=some o->m.get? y=some o:=λy o w l=>(n.2 y (by simpa using w)).trans l;refine⟨Mp.aF.v u.a (n:=[L]) (λy w=>by exact J (bF.mp w) ⟨u.b.d,u.b.a⟩) v,(u.e (cp.j u.a)).t v λy w o l=>by exact J (bF.mp w) x⟩
theorem kN(h:eE y x=true):y.names.lookup x=some .local/\(x==("__debug__":Str))=false:=by unfold eE at h;rw [fy,sG,mb]at h;exact h
theorem hF.d(y:hF z j L)x:z.kindOf x=j.names.lookup x:=by refine(?_:z.scope.names.lookup x=_);exact J y.a rfl
theorem Fy{a1}{v}{Q}(f:p.Nodup)(t:p[i]?=some x)(G:eE sc x=true)(a:cJ q a3 sc p a2 z L b e σ ρ s)(r:q.e b e v a0)(k:q.i p L (λO O O=>True) b e σ s (ρ.set i (some v)) σ Q):wpAny (model q.a q.b) a2 (storeName z x a0) Q a1 s:=by
 refine D (a.b.c) λm Z Y=>?_;refine ql (by rw [a.c.d];exact(kN G).1) (by rw [a.c.b];exact Z) (λU w d=>?_) a.c.e;rw [a.c.b]at w d;refine ae (a.j d (by refine bB w λo O O W O=>?_;exact⟨o,W⟩)) λC F=>?_;refine k () b e U _ (e_ _) C F ⟨by exact J fZ a.b.b,⟨_,w,λj y u l c=>?_⟩,a.b.a,a.b.d⟩ trivial;by_cases n:j=i;. clear k;subst n;obtain rfl:=ag (t▸l);replace c:=(kr (by(refine J a.b.b ?_);exact(bo.mp t).1))▸c;cases c;exact⟨a0,by simp,r⟩
 . refine D (Y j y u l ((lg (fv n))▸c)) λM P T=>?_;have R:y≠x:=λh=>by clear w G;subst h;obtain⟨B,V⟩:=bo.mp l;obtain⟨E,K⟩:=bo.mp t;exact n ((oG f).mp (V.trans K.symm))
   exact⟨M,by simp only [if_neg R];exact P,T⟩
end
section
variable{z:Value->Shared->Prop}
theorem I0{g t}(c:t≠g):∀n i s Q,s.heap.IsListIter g t i->s.heap.IsList t y->i+n<=y.size->(∀f,f.IsListIter g t (i+n)->Heap.SameBut g s.heap f->Q ((y.toList.drop i).take n) {s with heap:=f})->wpAny (model r w) h (draw (.ref g) n) Q z s:=by intro b;induction b with|zero=>intro i s Q j O O m;exact fa (by simpa using m s.heap j (Heap.SameBut.refl ..))|succ n e=>
intro i s Q j v p m;have o:i<y.size:=au (bw i n) p;refine bT (wpAny_pyNext_list_item j v (x:=y[i]) (by simp [o]) λk l q=>?_);refine bT (gV (e (i+1) _ _ l (v.extBut q.extBut c) (by lia) λd x u=>fa ?_));have a:y.toList.drop i=y[i]::y.toList.drop (i+1):=by simp [List.drop_eq_getElem_cons,o]
have:=m d (by exact J (show i+(n+1)=i+1+n by lia) x) (q.trans u);rw [a,List.take_succ_cons]at this;exact this
theorem RB{t}{Q}(r:v.handled=none)(j:s.heap.IsList t y)(k:∀c,Heap.ExtBut s.heap.objs.size s.heap c->Q y.toList {s with heap:=c}):wpAny (model f w) v (unpackItems (.ref t) y.size none) Q z s:=by
 have u:t≠s.heap.objs.size:=by refine D j λo i O=>?_;exact iJ (Heap.lt_size i)
 refine bT (bT (wpAny_specialOf j.typeIs PySem.F.slot_list_iter.lookup ?_));refine fa ?_;simp only [Bool.false_eq_true,if_false];refine bT (gV (wpAny_pyIter_list j ?_));refine bT (gV (I0 u y.size 0 _ _ ⟨_,gj _ rfl,rfl,rfl⟩ (j.push _) (by lia) λm l q=>?_));have g:List.take y.size (List.drop 0 y.toList)=y.toList:=by exact J qy (jg (by simp))
 refine J g (J (if_neg (by simp)) ?_);refine bT (gV (wpAny_pyNext_list_end r l ((j.push _).extBut q.extBut u) (by simp) λd n=>?_));simp only [Option.isSome_none,Bool.false_eq_true,if_false];refine fa (k d λb o p e=>n b o p (q.extBut b o p (gZ _ e)))
end
section
variable{z:bW}
theorem Ff{G}{v}{u}{n}{Q}(a:L.handled=none)(e:jW f v=some u)(a0:u.length=n)(i:z.c w c f s.heap)(r:z.e w c v a1)(k:∀y j,z.c w c f j->cp w c f s.heap w c f j->z.g w c u y->Q y {s with heap:=j}):wpAny (model z.a z.b) L (unpackItems a1 n none) Q G s:=by
 subst a0;unfold jW at e;have p:∀(y:List Value)j,z.g w c u y->Heap.ExtBut s.heap.objs.size s.heap j->Q y {s with heap:=j}:=λy j q t=>by refine ae (Mp.aF.t i (λb o e=>t b o (λh=>by rw [h,gc]at e;exact C e) e)) λZ Y=>?_;exact k y j Z Y q
 generalize d:aO f v=x at e
 induction x using V.casesOn with|d U=>
cases e;refine bB (ib i r d) λW y m D F=>?_;subst D;refine bk F λg q O=>?_;have l:u.length=y.toArray.size:=by simp [q.K]
exact J l (RB a (eh g) λj t=>p y j q t)|g U=>
cases e;refine bB (od i r d) λW y m M P=>?_;subst M;refine bk P λg q O=>?_;have l:u.length=y.toArray.size:=by simp [q.K]
exact J l (wpAny_unpackItems_tuple a ⟨_,g,rfl,m,rfl⟩ λj t=>p y j q t)|_=>exact C e
variable(z f m o)in def gy(p:Expr)(r:V->ao->af->Option (ao×af)):Prop:=∀A E s u g w d L y v c q j Q,r v d w=some (q,j)->cJ z f m o A y L u g w d s->z.e u g v c->z.i o L (λO O O=>True) u g w s q j Q->wpAny (model z.a z.b) A (assign p y c) Q E s
variable(z t v f)in def jS(g:List Expr)(r:List V->ao->af->Option (ao×af)):Prop:=(∀q,assignEach g q=g.map λy=>(false,assign y q))/\∀A E s w o d m L q c p j u Q,r c m d=some (j,u)->c.length=g.length->cJ z t v f A q L w o d m s->z.g w o c p->z.i f L (λO O O=>True) w o d s j u Q->wpAny (model z.a z.b) A (assignInOrder (g.map λy=>assign y q) p) Q E s
theorem gy.K(y:j.Nodup)(g:j[i]?=some x)(w:eE o x=true):gy z b o j (.Name x p) (λv q u=>if i<q.length then some (q.set i (some v),u)else none):=by
 intro A E s l n u q L d v h c f Q e a r k;dsimp only at e;split at e;. (refine ae (ey (ag e)) λm t=>?_;subst m;subst t);exact sJ (Fy y g w a r k)
 . exact C e
theorem gy.G{m n}(a1:aX z a0 sc nm a2 m)(a3:aX z a0 sc nm a4 n):gy z a0 sc nm (.Subscript a2 a4 p) (λv b σ=>(m b σ).bind λr=>(n b r.2).bind λq=>(eY q.2 r.1 q.1 v).map λo=>(b,o)):=by intro A E s B I σ b L i v rv N o Q e a r k;refine eo e λS u X e=>?_;refine eo e λH g e2 e=>?_;refine cb e λM e3 e=>?_;cases e;refine J (arm_assign_Subscript _ _ _ _ _) (bT (gV (a1 A E s B I σ b L i S u _ X a λP l d V T w h j Z=>?_)));refine bT (gV (a3 A E _ l d u b L i H g _ e2 (a.d w h j) λR a5 c Y f b9 U y W=>?_));refine bT (ma (bT (gV ?_)));refine RE (q:=z) (c:=a5) (f:=c) (p:=g) (j:=o) (λO ju nO D t iE im C O=>?_) λQ' k'=>PY (s:={s with heap:=Y,toks:=f}) e3 U (Z.F y.d y.b) W (r.F (j.d.j y.d) (j.b.trans y.b)) k';have x:=(j.e y).e C;exact wpAny_release (k () ju nO D t (ac w (ac b9 iE)) im (a.e x) (a.b.e x) trivial)
theorem jS.G:jS z m p t [] (λO y q=>some (y,q)):=⟨λO=>rfl,λA E s j u q y L g v w o d Q e b a r k=>by(refine ae (ey (ag e)) λc f=>?_;subst c;subst f);clear r;induction w using List.casesOn<;>exact fa (k () j u s.heap s.toks (aH _) a.a (a.e (cp.j a.a)) a.b trivial)⟩
theorem jS.F{r}{a0}(a2:∀y w,assignEach (t::w) y=(false,assign t y)::assignEach w y)(a3:gy z a1 sc nm t r)(d:jS z a1 sc nm Ys a0):jS z a1 sc nm (t::Ys) (λc b i=>match c with|x::a4=>(r x b i).bind λq=>a0 a4 q.1 q.2|[]=>none):=by refine⟨λy=>by rw [a2];exact J (d.1 y) rfl,λA E s U W i b L y c I l n Q e D a q k=>?_⟩;induction c using List.casesOn with|nil=>exact C e|cons v c=>dsimp only at e;refine eo e λZ j M e=>?_;refine bg q λP T R V=>?_;refine J R (ae V λK B=>?_);refine bT (gV (a3 A E s U W i b L y v P Z j _ M a K λO f o Y h u m g p O=>?_));exact d.2 A E _ f o j Z L y c T l n Q e (by simpa using D) (a.i u m p) (B.L g.f g.b) (k.o g u)
theorem OD(h:∀q,assignEach j q=j.map λy=>(false,assign y q))q:(assignEach j q).findIdx? (λO=>O.1)=none/\(assignEach j q).length=j.length/\(assignEach j q).map (λO=>O.2)=j.map λy=>assign y q:=by refine J (h q) ⟨?_,by simp,by simp⟩;refine J (propext List.findIdx?_eq_none_iff) ?_;intro x u;refine D (cG.mp u) λy O g=>?_;exact J g.symm rfl
theorem gy.F{b n}{d}(i:n=c.length)(f:jS z l x h c d):gy z l x h (.Tuple c b p) (λv g j=>(jW j v).bind λu=>if u.length=n then d u g j else none):=by
 refine J i ?_;intro A E s Z Y j g L y v T w o Q e a r k;refine aP e λu U e=>?_;split at e;. rename_i m;refine bk (OD f.1 y) λW O D=>?_;refine J (arm_assign_Tuple _ _ _ _ _) (bT (ma ?_));unfold unpack;refine J W (J O ?_);refine J D ?_;refine bT (gV (Ff a.f.a U m a.a r λM R P t q=>?_));exact f.2 A E _ Z Y j g L y u M w o Q e m (a.d (aH _) P t) q (k.o (a.e t) (aH _))
 . exact C e
end
section
variable{z:bW}
variable(z b e c)in def ck(i:Stmt)(r:ao->af->dc):Prop:=∀A E s w o d m p q t j g k,r m d=some (t,j,g)->cJ z b e c A q p w o d m s->z.i c p (λw o f=>oU z w o t f) w o d s j g k->wpAny (model z.a z.b) A (exec i q) k E s
variable(z m p o)in def iv(t:List Stmt)(r:ao->af->dc):Prop:=∀A E s F g w d L y c q j Q,r d w=some (c,q,j)->cJ z m p o A y L F g w d s->z.i o L (λF g f=>oU z F g c f) F g w s q j Q->wpAny (model z.a z.b) A (execs t y) Q E s
theorem lp{Q}(e:(some (w,o,j):dc)=some (d,u,g))(k:z.i c L (λy q f=>oU z y q d f) y q m s u g Q):z.i c L (λy q f=>oU z y q w f) y q m s o j Q:=by cases e;exact k
theorem iv.v:iv z d c f [] (λy q=>some (.a,y,q)):=λA E s F j q y L g m w o Q e a k=>by exact oH ((lp e k) .next F j s.heap s.toks (aH _) a.a (a.e (cp.j a.a)) a.b rfl)
theorem iv.u{r G}(a0:ck z O sc nm a1 r)(i:iv z O sc nm Ys G):iv z O sc nm (a1::Ys) (λl n=>(r l n).bind λq=>match q.1 with|.a=>G q.2.1 q.2.2|_=>some q):=λA E s F W n l L b C x h Q e a k=>by refine tQ e λZ Y w M e=>?_;refine no (a0 A E s F W n l L b Z Y w _ M a λf o g t d j c m p y=>?_);induction Z with|a=>have y:f=.next:=y;clear y;refine J y ?_;exact i A E _ o g w Y L b C x h Q e (a.i j c p) (k.o m j)|c=>have y:f=.cont:=y;clear y;refine J y ?_;exact(lp e k) .cont o g t d j c m p rfl|b T=>refine D y λU P y=>?_;exact J P ((lp e k) (.ret U) o g t d j c m p ⟨U,rfl,y⟩)
theorem cJ.k{u}{y}{L}{g}{w}{o}{m}{s}(q:cJ z p t r u y L g w o m s):interactive y=false:=by unfold interactive;refine J q.c.a (J q.c.c ?_);rfl
theorem Gd(h:eK x y):∀b,y≠.ref b:=λb e=>by subst e;induction x with|c=>cases h|d b=>cases h|b i=>refine av h λt h=>?_;cases h|a l=>refine D h λt h O=>?_;cases h
theorem ck.K{m}(l:∀q,swapsWith h none p.line q=pure false)(a0:aX z a1 sc nm h m):ck z a1 sc nm (.Expr h p) (λi n=>(m i n).bind λr=>match r.1 with|.f _=>some (.a,i,r.2)|_=>none):=by
 intro A E s Z Y n i J q I U W N e a k;refine eo e λD w M e=>?_;refine wpAny_Expr (a0 A E s Z Y n i J q D w _ M a λT f o t d c b j g=>?_) a.k (l q);dsimp only at e;split at e;. have V:=Gd g;have B:=(lp e k) .next f o t d c b (a.e j) (a.b.e j) rfl;clear g;induction T<;>first|exact B|exact absurd rfl (V _)
 . exact C e
theorem ck.O{a1}{t}{m n}(a2:eL z a0 sc nm a1 t)(a3:iv z a0 sc nm Ys m)(a4:iv z a0 sc nm Zs n):ck z a0 sc nm (.If a1 Ys Zs p) (λc σ=>(t c σ).bind λr=>if r.1 then m c r.2 else n c r.2):=by intro A E s M T σ c Z f U i l W e a k;refine eo e λb j V e=>?_;refine wpAny_If (a2 A E s M T σ c Z f b j _ V a λB o w D Y q d g h=>?_);cases h;dsimp only at e;induction C:b with|true=>rw [C,if_pos rfl]at e;exact J (if_pos rfl) (a3 A E _ o w j c Z f U i l W e (a.d q d g) (k.o (a.e g) q))|false=>rw [C,if_neg iD]at e;exact J (if_neg iD) (a4 A E _ o w j c Z f U i l W e (a.d q d g) (k.o (a.e g) q))
theorem ck.y:ck z f m t (.Return none p) (λq j=>some (.b .j,q,j)):=λA E s g w j q r o b d c i e a k=>by exact wpAny_Return_none ((lp e k) _ g w s.heap s.toks (aH _) a.a (a.e (cp.j a.a)) a.b ⟨.none,rfl,nA⟩)
theorem ck.Q{m}(n:aX z h sc nm a0 m):ck z h sc nm (.Return (some a0) p) (λb i=>(m b i).map λr=>(.b r.1,b,r.2)):=λA E s Z Y i b J l T U W V e a k=>by refine vn e λD j C e=>?_;exact wpAny_Return_some (n A E s Z Y i b J l D j _ C a λM d g c w o f q t=>(lp (aJ some e) k) _ d g c w o f (a.e q) (a.b.e q) ⟨M,rfl,t⟩)
theorem ck.G:ck z f m t (.Continue p) (λq j=>some (.c,q,j)):=λA E s g w j q r o b d c i e a k=>by exact wpAny_Continue ((lp e k) _ g w s.heap s.toks (aH _) a.a (a.e (cp.j a.a)) a.b rfl)
theorem ck.F{c l}{m}{g}(a0:∀j,swapsWith l (some c) p.line j=pure false)(a1:∀j,swappedStores [c] l j=pure none)(a2:∀j,assignEach [c] j=[(false,PySem.assign c j)])(a4:aX z a3 sc nm l m)(a5:gy z a3 sc nm c g):ck z a3 sc nm (.Assign [c] l p) (λn σ=>(m n σ).bind λr=>(g r.1 n r.2).map λq=>(.a,q)):=by intro A E s I N σ n T j fl S X a8 e a k;refine eo e λV w H e=>?_;refine vn e λj3 f e2 e=>?_;replace k:=lp (aJ some e) k;refine J (arm_exec_Assign _ _ _ _) (bT (ma ?_));have h1:swapsWithSole [c] l p.line j=pure false:=a0 j;refine bT (oI h1 ?_);refine J (if_neg iD) (bT (a4 A E s I N σ n T j V w _ H a λrv h t B M o Z d Y=>?_));refine bT (oI (a1 j) ?_);refine J (a2 j) ?_;refine bT (a5 A E _ h t w n T j V rv j3 f _ e2 (a.d o Z d) Y λa6 a7 b U i b9 W D C a6=>fa ?_);exact k .next a7 b U i (ac o b9) W ((a.e d).g D) C rfl
theorem ck.v{a2}{c5}{c6}{c7}(b2:nm.Nodup)(d2:nm[i]?=some f)(c8:eE sc f=true)(a3:(b1.line==b3.line)=true)(a6:(j.names.any λ(n,k)=>n==f&&(k==.local||k==.cell))=false)(a4:∀f∈j.names,f.2≠.free)(a5:∀f∈j.names,f.2≠.cell)(a0:j.kind=.function)(a1:∀f∈j.names,f.2=.local->j.names.lookup f.1=some .local)(d3:j.names.lookup t=some .local)(hs:∀w b4,foldedSetIterable Yi w b4=pure b4)(d4:gz z b5 sc nm (.Name t c9) a2 Yi c7)(hc:kl z b5 j [t] a7 c6)(d5:aX z b5 j [t] a8 c5):ck z b5 sc nm (.Assign [.Name f b1] (.ListComp a8 [⟨.Name t c9,Yi,a7,0⟩] j b3) p) (λρ σ=>((c7 ρ σ).bind λr=>(gs a2 r.1).bind λd0=>(fL (λt σ=>c5 [some t] σ) (λt σ=>c6 [some t] σ) d0 [] r.2).bind λq=>eU d1 (.d q.1) q.2).bind λr=>(if i<ρ.length then some (ρ.set i (some r.1),r.2)else none).map λq=>(.a,q)):=by
 intro A E s e5 φ σ ρ b6 w fl d6 d7 b7 e a k;refine eo e λb4 d8 B e=>?_;refine eo B λvs b8 e1 B=>?_;refine aP B λd0 e2 B=>?_;refine eo B λzs b9 e3 B=>?_;refine vn e λj3 c0 e4 e=>?_;replace k:=lp (aJ some e) k;split at e4
 . clear e;clear e;(refine ae (ey (ag e4)) λz2 z3=>?_;subst z2;subst z3);have I:w.blockKind=.function:=by unfold Env.blockKind;refine J a.c.a (J a.c.c ?_);rfl
   have c1:swapsWith (.ListComp a8 [⟨.Name t c9,Yi,a7,0⟩] j b3) (some (.Name f b1)) p.line w=pure true:=by refine(?_:(pure (w.blockKind==.function&&w.kindOf f==some .local&&b1.line==b3.line&&!(j.names.any λ(n,k)=>n==f&&(k==.local||k==.cell))):Sem Bool)=pure true);refine J I ?_;rw [a.c.d,(kN c8).1];refine J a3 (J a6 ?_);rfl
   refine J (exec_Assign_Name_used _ _ _ _ c1) (bT (ma (bT ?_)));refine bT (fx (wpAny_comprehension_use (Q:=λl M=>b7 .next M) rfl (hs w) a4 a0 a1 (AR (d2:=λc2 d r M=>match r with|.ok _=>wpAny (model z.a z.b) A (PySem.assign (.Name f b1) w c2) (λl N=>∃m,N.heap.Ns d.locals m/\∀h',Heap.SameBut d.locals N.heap h'->b7 .next {N with heap:=h'}) E M|.error t=>∃m,M.heap.Ns d.locals m/\∀h',Heap.SameBut d.locals M.heap h'->wpAny (model z.a z.b) A (passOn "comprehension.variables-let-go" t d) (λl M=>b7 .next M) E {M with heap:=h'}) a5 a0 d3 d4 hc d5 e1 e2 e3 a λDa V h tk F' aq d9 m mm ht S t o g r Qe oc ns c3 mL mJ=>?_)) (λl M hq=>fa (fa hq)) λl l e=>e);have xe:=t.s (λl h=>by cases h);have Fv:b6≠V:=λh=>by refine av (a.b.k) λo e=>?_;rw [h,mJ]at e;exact C e
   have e0:b6≠Da:=λh=>by refine av (a.b.k) λo e=>?_;rw [h,mL]at e;exact C e
   refine gN (CF (s:=s) B S t o g mL r (by exact ac Qe (by decide))) λe6 c4 a9 b0 X T=>?_;have JQ:=b0.s (λl h=>by cases h);have H5:=T V (fv c3) oc;refine sJ (Fy (s:={s with heap:=h,toks:=tk}) b2 d2 c8 (a.d ht a9 JQ) X λl ju nO Y H iE im U Z l=>?_);have Uu:Y.Ns V mm:=iu ns λW e=>U.n e (by simpa using fv Fv) H5;refine⟨mm,Uu,λc lr=>?_⟩;have lr:Heap.SameBut V Y c:=lr;obtain⟨oC,zW⟩:∃W,h.get? V=some W:=by refine bB ns λW l l ho l=>?_;exact⟨W,ho⟩
   have UD:=U.q zW H5;have zS:∀b W,b∉[V]->Y.get? b=some W->c.get? b=some W:=λb W I e=>(lr.2 b (by simpa using I)).trans e;have jz:=Mp.aF.v im (n:=[V]) (a3:=c) (λb I=>by obtain rfl:=bF.mp I;exact UD) zS;have jp:=((a.e JQ).g U).r (L:=[V]) (a5:=c) (a2:=ju) (λb I=>by obtain rfl:=bF.mp I;exact mJ) zS (aw.a.i _) (λl l e=>.inl e);refine k .next ju nO c H (ac ht iE) jz jp ⟨Z.b,?_,Z.a,Z.d⟩ rfl;refine D (Z.c) λm3 n3 q3=>?_;exact⟨m3,iu n3 λW e=>zS b6 W (by simpa using Fv) e,q3⟩
 . exact C e4
end
theorem JT{z y:Type}f(g:z->y)(q:∀a b,f a=some b->b=g a):∀l:List z,(l.filterMap f).length=l.length->l.filterMap f=l.map g:=by intro j;induction j with|nil=>intro O;exact rfl|cons a l u=>
intro h;refine fC (o:=f a) (λe=>?_) λb e=>?_;. rw [List.filterMap_cons_none e]at h;have:=x' f l;simp at h;lia
. rw [List.filterMap_cons_some e]at h⊢;refine J (u (by simpa using h)) (J (q a b e) ?_);rfl
theorem OF{z u:Type}{f:z->u}:∀{l:List z},l.Nodup->(∀x∈l,∀y∈l,f x=f y->x=y)->(l.map f).Nodup:=by intro g;induction g with|nil=>intro O O;exact md|cons a l w=>intro h q;refine J dU (J (propext hX) ?_);have h:=hX.mp h;refine⟨λo=>?_,w h.2 λx d y c=>q x (.tail _ d) y (.tail _ c)⟩;refine D (cG.mp o) λb j e=>?_;exact h.1 (q b (.tail _ j) a (.head _) e▸j)
noncomputable def sX(e:Expr):Str:=(PySem.nameOf? e).getD Str.empty
noncomputable abbrev yt(x:Expr):Bool:=PySem.swappedStores.match_5 (λ_=>Bool) x (λ_ _=>true) λ_=>false
theorem QM(d:j.any yt=false)(c:j.all (foldedForSure 8)=true\/j.all (constantsAlone 8)=false):swappedStores [.Tuple q p t] (.Tuple j r v) u=pure none\/(swappedStores [.Tuple q p t] (.Tuple j r v) u=pure (some (q.map sX))/\q.length=j.length):=by
 unfold swappedStores;dsimp only;by_cases w:(!(q.length==2||q.length==3)||j.length !=q.length||u.blockKind !=.function)=true;. left;rw [if_pos w]
 . rw [if_neg w];have g:q.length=j.length:=by simp only [Bool.or_eq_true,bne_iff_ne,ne_eq,not_or,Decidable.not_not]at w;exact w.1.2.symm
   generalize m:j.any _=k;have i:k=false:=by rw [<-m];exact d
   clear m;refine J i ?_;rw [if_neg iD];generalize y:q.filterMap _=z;by_cases o:(z.length !=q.length||z.eraseDups.length !=z.length)=true;. left;rw [if_pos o]
   . rw [if_neg o];by_cases f:j.all (foldedForSure 8)=true;. left;rw [if_pos f]
     . rw [if_neg f];have l:j.all (constantsAlone 8)=false:=by
        refine c.elim (λh=>?_) λh=>?_;. exact absurd h f
        . exact h
       rw [l];refine J (if_neg iD) ?_;right;refine⟨?_,g⟩;have n:z.length=q.length:=by simp only [Bool.or_eq_true,bne_iff_ne,ne_eq,not_or,Decidable.not_not]at o;exact o.1
       have:z=q.map sX:=by rw [<-y];refine JT _ sX (λa b e=>?_) q (by rw [y];exact n);induction a using Expr.casesOn with|Name=>exact eI e λO e=>(ag e).symm|_=>exact C e
       refine J this ?_;rfl
section
variable{z:bW}
theorem A1{a0}(f:hF l sc L):∀(q:List Str)(j:List Value)(m:Str->Option Value)(s:Shared)(Q:Unit->Shared->Prop),q.length=j.length->q.Nodup->(∀x∈q,sc.names.lookup x=some .local)->s.heap.Ns L m->(∀a G h,s.toks<=G->a.Ns L h->Heap.SameBut L s.heap a->(∀y,y∉q->h y=m y)->(∀p∈q.zip j,h p.1=some p.2)->Q () {s with heap:=a,toks:=G})->wpAny (model z.a z.b) a1 (assignInOrder (q.map λn=>bindName l n) j) Q a0 s
|[],[],m,s,Q,_,_,_,Z,k=>fa (k s.heap s.toks m (aH _) Z (Heap.SameBut.refl ..) (λO O=>rfl) (λp t=>by cases t))|x::q,v::j,m,s,Q,r,Y,w,Z,k=>by
 refine bT (gV (wpAny_bindName (ql (m:=m) (by rw [f.d];exact w x (.head _)) (by rw [f.b];exact Z) (λJ u g=>?_) f.e)));rw [f.b]at u g;refine A1 f q j _ _ Q (by simpa using r) (hX.mp Y).2 (λy b=>w y (.tail _ b)) u λe o i W d c U D=>?_;refine k e o i (ac (e_ _) W) d (g.trans c) (λy b=>?_) λp t=>?_;. simp only [List.mem_cons,not_or]at b;refine(U y b.2).trans ?_;simp [b.1]
 . refine dF t ?_ λt=>?_;. refine(U x ((hX.mp Y).1)).trans ?_;simp
   . exact D p t|[],_::_,_,_,_,r,_,_,_,_=>by simp at r|_::_,[],_,_,_,r,_,_,_,_=>by simp at r
theorem ck.x{g:List (Nat×Pos)}{a3 Ys}{n c0 c1}{c2 c3 p}{m}{b7}(d1:a3=g.map λt:Nat×Pos=>Expr.Name (bK f t.1) t.2)(b8:n=a3.length)(a8:f.Nodup)(a9:∀t∈g,t.1<f.length/\eE sc (bK f t.1)=true)(c4:(g.map (λa1=>a1.1)).Nodup)(c5:Ys.any yt=false)(c6:Ys.all (foldedForSure 8)=true\/Ys.all (constantsAlone 8)=false)(b0:aX z d2 sc f (.Tuple Ys c1 c3) m)(d7:jS z d2 sc f a3 b7)(c7:∀a2 ρ σ b a0,b7 a2 ρ σ=some (b,a0)->a2.length=g.length->a0=σ/\b.length=ρ.length/\∀(j:Nat)(a4:V),b[j]?=some (some a4)->(∃(i:Nat)(t:Nat×Pos),g[i]?=some t/\t.1=j/\a2[i]?=some a4)\/(j∉g.map (λa1=>a1.1)/\ρ[j]?=some (some a4))):ck z d2 sc f (.Assign [.Tuple a3 c0 c2] (.Tuple Ys c1 c3) p) (λρ σ=>(m ρ σ).bind λr=>((jW r.2 r.1).bind λa2=>if a2.length=n then b7 a2 ρ r.2 else none).map λq=>(.a,q)):=by
 intro A E s d8 φ σ ρ d3 Y fl b a0 d9 e a k;refine eo e λd4 d e1 e=>?_;refine vn e λj3 c8 e2 e=>?_;cases e;refine J (arm_exec_Assign _ _ _ _) (bT (ma ?_));refine bT (oI (a:=false) rfl ?_);refine J (if_neg iD) (bT (b0 A E s d8 φ σ ρ d3 Y d4 d _ e1 a λrv B U d5 H c W l I=>?_));rcases QM (q:=a3) (p:=c0) (r:=c1) (t:=c2) (v:=c3) (u:=Y) c5 c6 with hs|⟨hs,d6⟩;. refine bT (oI hs ?_);refine(?_:wpAny _ A (do PySem.assign (.Tuple a3 c0 c2) Y rv;pure .next) d9 E _);refine bT (gy.F b8 d7 A E _ B U d ρ d3 Y d4 rv b a0 _ e2 (a.d c W l) I λa1 e0 a5 N a6 e3 M Z b1 a1=>fa ?_);exact k .next e0 a5 N a6 (ac c e3) M ((a.e l).g Z) b1 rfl
 . refine bT (oI hs ?_);have P3:a3.map sX=g.map λt:Nat×Pos=>bK f t.1:=by rw [d1];exact di.trans rfl
   refine J P3 (aP e2 λa2 hi e2=>?_);have PN:a3.length=g.length:=by rw [d1];simp
   obtain⟨hl,er⟩:a2.length=g.length/\b7 a2 ρ d=some (b,a0):=by
    split at e2;. rename_i hl;exact⟨by refine hl.trans (b8.trans ?_);exact PN,e2⟩
    . exact C e2
   refine ae (c7 a2 ρ d b a0 er hl) λz3 z4=>?_;subst z3;refine ae z4 λQK QJ=>?_;unfold assignStores;dsimp only;refine bT (wpAny_rule ?_);refine bT (Ff (n:=(g.map λt:Nat×Pos=>bK f t.1).length) a.f.a hi (by simpa using hl) W I λvs N M Z q=>?_);have w:=(a.d c W l).d (G:=H) (aH _) M Z;refine D (w.b.c) λmm b8 hm=>?_;have hz:=q.K;have T:∀t∈g,f[t.1]?=some (bK f t.1):=λt S=>by unfold bK;refine J hY ?_;refine J (cH (a9 t S).1) ?_;rfl
   have c9:(g.map λt:Nat×Pos=>bK f t.1).Nodup:=by
    have:(g.map λt:Nat×Pos=>bK f t.1)=(g.map (λa1=>a1.1)).map (bK f):=by exact J di rfl
    rw [this];refine OF c4 ?_;intro e4 hx b9 b0 d0;refine D (cG.mp hx) λt S z5=>?_;subst z5;refine D (cG.mp b0) λa4 hu z6=>?_;subst z6;have h1:=T t S;rw [d0]at h1;obtain⟨p1,p2⟩:=bo.mp h1;obtain⟨q1,q2⟩:=bo.mp (T a4 hu);exact(oG a8).mp (p2.trans q2.symm)
   have e5:((g.map λt:Nat×Pos=>bK f t.1).reverse.map λn=>bindName Y n)=((g.map λt:Nat×Pos=>bK f t.1).reverse).map (λn=>bindName Y n):=rfl;refine bT (A1 (z:=z) w.c _ _ mm _ _ (by simp [hz,hl]) (List.pairwise_reverse.mpr (List.Pairwise.imp (λh=>fv h) c9)) (λe4 hx=>?_) b8 λb2 a7 b3 iE gY e6 q1 q2=>fa ?_);. refine D (cG.mp (np.mp hx)) λt S z7=>?_;subst z7;exact(kN (a9 t S).2).1
   . refine ae (w.j e6 (by refine bB gY λo a1 a1 ho a1=>?_;exact⟨o,ho⟩)) λim b4=>?_;refine k .next B U b2 a7 (ac c iE) im ((a.e (l.e Z)).g b4) ⟨by rw [QK];exact w.b.b,⟨b3,gY,λj b9 a4 ej eu=>?_⟩,w.b.a,w.b.d⟩ rfl;rcases QJ j a4 eu with⟨i,t,t1,rfl,t3⟩|⟨t1,t2⟩
     . refine D (q.P t3) λru r1 r2=>?_;refine⟨ru,?_,r2⟩;have b5:(bK f t.1,ru)∈(g.map λt:Nat×Pos=>bK f t.1).reverse.zip vs.reverse:=by
        have b6:i<g.length:=(bo.mp t1).1;have X:g.length-1-i<g.length:=au (le _ _) (Nat.sub_lt (Nat.zero_lt_of_lt b6) Nat.one_pos);have FM:=Nat.sub_sub_self (Nat.le_sub_one_of_lt b6);refine cq (i:=g.length-1-i) (J (propext sI) ?_);constructor;. refine(sx (by rw [bU];exact X)).trans ?_;refine J hw ?_;refine J (bU _) (J FM ?_);exact J t1 rfl
        . refine(sx (by rw [hz,hl];exact X)).trans ?_;refine J hz (J hl ?_);exact J FM r1
       have:=q2 _ b5;have QH:b9=bK f t.1:=by exact(ag (ej.symm.trans (T t (cq t1))))
       exact J QH this
     . refine D (hm j b9 a4 ej t2) λru r1 r2=>?_;refine⟨ru,?_,r2⟩;rw [q1 b9 λb0=>?_];. exact r1
       . refine D (cG.mp (np.mp b0)) λt S QI=>?_;have h1:=T t S;rw [QI]at h1;obtain⟨p1,p2⟩:=bo.mp h1;obtain⟨e7,Vs⟩:=bo.mp ej;exact t1 (cG.mpr ⟨t,S,(oG a8).mp (p2.trans Vs.symm)⟩)
end
section
variable{q:bW}{w:Scope}
theorem yw{v}(h:dR z i=some v):z[i]?=some (some v):=by unfold dR at h;induction e:z[i]? with|none=>exact C (e▸h)|some o=>rw [e]at h;exact aJ some h
theorem J2(hc:(∃a0,c=.d a0)\/∃d,c=.e d)(Q:dR ρ i=some (.c k))(e2:v[k]?=some c)(a:cJ q a1 w nm a2 G L l z v ρ s):∃r,cJ q a1 w nm a2 G L r z (v.set k .i) (ρ.set i (some c)) s/\cp l z v s.heap r z (v.set k .i) s.heap:=by
 have Q:=yw Q;obtain⟨W,a3⟩:=bo.mp e2;have P':k<z.length:=by exact J a.a.d W
 have C:z[k]?=some z[k]:=cH P';have g:=a.a.k k z[k] c C e2;have F:∃Z,l z[k]=none/\s.heap.get? z[k]=some Z/\∀r:aw,l.a r->r z[k]=some Z->q.e r z c (.ref z[k]):=by
  rcases hc with⟨a0,rfl⟩|⟨d,rfl⟩;. refine kT g λM vs n P T R=>?_;refine⟨_,M,P,λr Y V=>?_⟩;exact(dK _ vs n ⟨rfl,V,T.L Y dt,R⟩)
  . refine qg g λM P o K T z1=>?_;refine bk z1 λR h5 h6=>?_;refine⟨_,M,T,λr Y V=>?_⟩;exact(dK _ o K ⟨rfl,V,R,h5,P,h6⟩)
 refine gn F λZ Y hg QC=>?_;have f:=aw.e (o:=Z) Y;have S':q.c (l.c z[k] Z) z (v.set k .i) s.heap:=by
  refine⟨λb o e=>?_,λb o e=>f b o (a.a.j b o e),by simp [a.a.d],a.a.l,a.a.e,λj b c' I N=>?_⟩
  . by_cases p:b=z[k];. subst p;replace e:=aw.d▸e;exact J (ag e).symm hg
    . exact a.a.b b o ((aw.b p).symm.trans e)
  . by_cases t:j=k;. subst t;refine J (ag ((kr W).symm.trans N)).symm ?_;trivial
    . have p:b≠z[k]:=λh=>t (xo a.a.l I (h▸C));exact(a.a.k j b c' I ((lg (fv t))▸N)).z f dt (λx=>by exact(aw.b p).trans x) (λO e=>e)
 have S:cp l z v s.heap (l.c z[k] Z) z (v.set k .i) s.heap:=by
  refine⟨f,dt,a.a.d,a.a.e,λi b e hi=>absurd (bo.mp e).1 (lf.mpr hi),λb o e O=>e,λj e=>?_,λb o e=>?_⟩
  . by_cases t:j=k;. exact J t (kr W)
    . refine(lg (fv t)).trans ?_;exact e
  . by_cases p:b=z[k];. exact .inr (.inr (p▸oC _))
    . exact .inl ((aw.b p).symm.trans e)
 refine⟨_,⟨a.c,a.f,S',?_,a.h⟩,S⟩;refine D (a.b.c) λm hn X=>?_;have A:=a.b.e S;refine⟨by exact fZ.trans a.b.b,⟨m,hn,λj y u H U=>?_⟩,A.a,A.d⟩;by_cases t:j=i;. subst t;refine D (X j y _ H Q) λrv B E=>?_;refine D E λb z2 p=>?_;subst z2;obtain rfl:=ag (C▸p);replace U:=(kr (bo.mp Q).1).symm.trans U;cases U;exact⟨_,B,QC _ f aw.d⟩
 . refine D (X j y u H ((lg (fv t))▸U)) λrv B E=>?_;exact⟨rv,B,E.F f dt⟩
theorem Jy:∀h u g t y z,nt h t g=some (y,z)->cJ q Q w G O r L u b g t s->∃x,cJ q Q w G O r L x b z y s/\cp u b g s.heap x b z s.heap:=by intro Z;induction Z with|nil=>intro u g t y z e a;exact lv e ⟨u,a,cp.j a.a⟩|cons i P Y=>intro u g t y z e a;refine eo e λT l j e=>?_;refine aP j λv n j=>?_;refine aP j λk J j=>?_;refine aP j λc U j=>?_;refine eI j λW j=>?_;(refine ae (ey (ag j)) λC F=>?_;subst C;subst F);replace n:=(V.v J)▸n;refine D (J2 (by induction c using V.casesOn<;>first|exact .inl ⟨_,rfl⟩|exact .inr ⟨_,rfl⟩|exact am W) n U a) λo d f=>?_;refine D (Y o _ _ y z e d) λM m p=>?_;exact⟨M,m,f.e p⟩
theorem tb{o}{Q}(h:some (d,c,z)=some (m,u,g))(k:q.i o L (λy j f=>oU q y j m f) y j p s u g Q):q.i o L (λy j f=>oU q y j d f) y j p s c z Q:=by cases h;exact k
inductive AA(q:bW)(t:List Str)(s:Shared)(r:aw)(v:List Addr)(k:af)(L:Addr)(e:List Addr)(l:Nat->Heap->Prop)(y:aw)(z:List Addr)(g:V->ao->af->Option (ao×af))(b:ao->af->dc)(j:List V)(x:eM)(u:ao)(o:af)(n:Nat)(Q:Shared):Prop|a(i:Nat)(h:Heap)(d:Nat)(c:aw)(f:List Addr)(m:af)(p:ao)(_:Q={s with heap:=h,toks:=d})(_:n=j.length+1-i)(_:i<=j.length)(_:jI q s r v k [L] e l y z i c f m h d)(_:q.j c f L t p h)(_:jN g b (j.drop i) p m=some (x,u,o))
inductive As(q:bW)(c:List Str)(s:Shared)(f:aw)(m:List Addr)(p:af)(L:Addr)(t:ao->cM Bool)(b:ao->af->dc)(r:eM)(z:ao)(y:af)(n:Nat)(v:Shared):Prop|a(h:Heap)(o:Nat)(j:aw)(u:List Addr)(g:af)(d:ao)(_:v={s with heap:=h,toks:=o})(_:s.toks<=o)(_:q.c j u g h)(_:dv [L] f m p s.heap j u g h)(_:q.j j u L c d h)(_:mU t b n d g=some (r,z,y))
theorem ck.u{c0 Yi}{a1}{c6}{g}{b}(hs:∀d b9,foldedSetIterable Yi d b9=pure b9)(c1:gz q b3 w nm c0 a1 Yi c6)(c8:gy q b3 w nm c0 g)(hb:iv q b3 w nm Ys b):ck q b3 w nm (.For c0 Yi Ys [] p) (λρ σ=>(nt c9 ρ σ).bind λz=>(c6 z.1 z.2).bind λr=>(gs a1 r.1).bind λa0=>jN g b a0 z.1 r.2):=by
 intro A E s d0 φ σ ρ Z d fl a3 a4 d1 e a k;refine eo e λCE qd e0 e=>?_;refine eo e λvs U e1 e=>?_;refine aP e λa0 e2 e=>?_;refine D (Jy c9 d0 σ ρ CE qd e0 a) λFz az xz=>?_;have kz:=k.o (p:=s.heap) (w:=s.toks) (a.e xz) (aH _);refine wpAny_For (c1 A E s Fz φ qd CE Z d vs U a0 _ e1 e2 az λI wr Kp W c b4 a5 a6 b5 X it k0 hw=>?_) (hs d);have vc:∀b∈wr,b∉[Z]:=λb hb h=>by obtain rfl:=bF.mp h;refine av (az.b.k) λo e=>?_;exact C (((hw b hb).2.2.1)▸e)
 refine codeAny_forLoop_any (AA q nm s Fz φ qd Z wr Kp W c g b a0 fl a3 a4) ?_ (a0.length+1) ⟨0,b4,a5,W,c,U,CE,rfl,rfl,eT _,⟨a6,k0,b5,az.e X,aw.a.i _,dt,λb hb=>⟨⟨(hw b hb).1,(hw b hb).2.1⟩,(hw b hb).2.2.2⟩,λb hb=>(hw b hb).2.2.1⟩,az.b.e X,by simpa using e⟩;rintro n s'⟨i,h,tk,F',aq,fe,ii,rfl,rfl,c1,lp,B,M⟩;rcases qk i a0.length with N|c2
 . replace M:=(dT N)▸M;refine eo M λCF f d2 M=>?_;refine tQ M λf3 j4 t c7 M=>?_;dsimp only at c7 M;refine fx (lp.k it (cH N) λrv aX H a7 d6 rQ zI a8 S a9=>?_) (λr Y hr=>by refine D hr λb9 eZ hr=>?_;exact J eZ hr) (λb0 b0 h=>h);refine av (bW.j.k (q:=q) B) λoL kh=>?_;have SG:q.j aX aq Z nm ii H:=by refine D (B.c) λm hn hm=>?_;have ho:=S Z oL kh ⟨B.d,B.a⟩;refine⟨B.b,⟨m,iu hn λo e=>a8 Z o (λhm=>vc Z hm (.head _)) e,λj d3 d4 ej eu=>?_⟩,ho.2,ho.1⟩;refine D (hm j d3 d4 ej eu) λru r1 r2=>?_;exact⟨ru,r1,r2.F zI dt⟩
   have Di:cJ q b3 w nm A d Z aX aq fe ii {s with heap:=H,toks:=a7}:=⟨a.c,a.f,rQ.d,SG,bl a.h rQ.b⟩;refine c8 A _ _ aX aq fe ii Z d a0[i] rv CF f _ d2 Di a9 λb0 ju nO b6 b1 iE im b7 b8 b0=>?_;have t9:cJ q b3 w nm A d Z ju nO f CF {s with heap:=b6,toks:=b1}:=Di.i iE im b8;refine hb A _ _ ju nO f CF Z d f3 j4 t _ c7 t9 λrf iT js T l lu jz jp a2 nj=>?_;have pp:=(rQ.h it b7 im vc iE).h it jp jz vc lu;have V:jN g b (a0.drop (i+1)) j4 t=some (fl,a3,a4)->∃m,m<a0.length+1-i/\AA q nm s Fz φ qd Z wr Kp W c g b a0 fl a3 a4 m {s with heap:=T,toks:=l}:=λhl=>⟨_,ud N,i+1,T,l,iT,js,t,j4,rfl,rfl,N,pp,a2,hl⟩;induction f3 with|a=>exact J nj (V M)|c=>exact J nj (V M)|b b9=>refine D nj λru z8 r4=>?_;exact J z8 (tb M kz (.ret ru) iT js T l pp.b jz pp.e a2 ⟨ru,rfl,r4⟩)
 . have qS:i=a0.length:=gk c1 c2;subst qS;have kz:=tb (qx▸M) kz;clear e k;refine fx (wpAny_toks_of (s:={s with heap:=h,toks:=tk}) (n:=tk) (aH _) (it.d {s with heap:=h,toks:=tk} _ (λr Y=>tk<=Y.toks->r=none/\d1 .next Y) lp.g λh' c3 b2 c4=>?_)) (λr Y hq=>?_) (λb0 b0 d5=>d5.2);. have S':=Mp.aF.v lp.d (n:=wr) (a3:=h') (λb hb=>(lp.a b hb).1) b2;have x':=lp.e.r (L:=wr) (a5:=h') (a2:=F') lp.f b2 (aw.a.i _) (λb0 b0 e=>.inl e);refine D (B.c) λm hn hm=>?_;exact⟨rfl,kz .next F' aq h' c3 (ac lp.b c4) S' x' ⟨B.b,⟨m,iu hn λo e=>b2 Z o (λhm=>vc Z hm (.head _)) e,hm⟩,B.a,B.d⟩ rfl⟩
   . refine ae hq λh1 hq=>?_;refine ae (hq h1) λz9 c5=>?_;exact J z9 (oH c5)
theorem ck.L{a2}{t}{b}(a3:eL q a1 w nm a2 t)(hb:iv q a1 w nm Ys b):ck q a1 w nm (.While a2 Ys [] p) (λρ σ=>mU t b a0 ρ σ):=by intro A E s H φ σ ρ N T fl V B a5 e a k;refine wpAny_While (codeAny_whileLoop (As q nm s H φ σ N t b fl V B) ?_ a0 ⟨s.heap,s.toks,H,φ,σ,ρ,rfl,aH _,a.a,a.e (cp.j a.a),a.b,e⟩);rintro n s'⟨h,tk,F',aq,fe,ii,rfl,I,S,a4,iJ,o⟩;induction n using Nat.casesOn with|zero=>exact C o|succ n=>refine eo o λc d c1 o=>?_;have xL:cJ q a1 w nm A T N F' aq fe ii {s with heap:=h,toks:=tk}:=a.i I S iJ;refine a3 A _ _ F' aq fe ii N T c d _ c1 xL λrb Y f U r j W i X=>?_;cases X;have xx:=a4.g (xL.e i);dsimp only at o;induction hc:c with
|true=>rw [hc,if_pos rfl]at o;refine J (if_pos rfl) (tQ o λf3 j4 g c2 o=>?_);dsimp only at o;refine hb A _ _ Y f d ii N T f3 j4 g _ c2 (xL.d (o:=U) (G:=r) j W i) λrf iT js l z lu jz jp M nj=>?_;have F1:s.toks<=z:=ac I (ac j lu);have Z:mU t b n j4 g=some (fl,V,B)->∃m,m<n+1/\As q nm s H φ σ N t b fl V B m {s with heap:=l,toks:=z}:=λhl=>⟨n,li _,l,z,iT,js,g,j4,rfl,F1,jz,xx.g jp,M,hl⟩;induction f3 with|a=>exact J nj (Z o)|c=>exact J nj (Z o)|b a6=>refine D nj λru dq r4=>?_;exact J dq (tb o k (.ret ru) iT js l z F1 jz (xx.g jp) M ⟨ru,rfl,r4⟩)
|false=>rw [hc,if_neg iD]at o;exact J (if_neg iD) (oH (tb o k .next Y f U r (ac I j) W xx (iJ.e i) rfl))
end
section
variable{z:bW}{q:Value->Shared->Prop}
theorem wZ a j b:∀l,(gK a j [b] l).length<=l.length
|[]=>aH _|[x]=>aH _|x::y::l=>by
 refine J Ph ?_;split;. simp;exact bX (wZ a j b l)
 . have:=wZ a j b (y::l);simp at this⊢;exact this
theorem EX{s c t}(h:pO s c=some t):∃a y b,c=[a,y]/\dI ca c=[b]/\t=gK a y [b] s:=by refine aP h λp j e=>?_;refine cb e λb u g=>?_;exact J g.symm (dK p.1 p.2 b ⟨pH j,fO u,rfl⟩)
theorem qL{m}{Q:Value->Shared->Prop}(y:hF j g L)(u:eE g x=true)(w:s.heap.Ns L m)(o:m x=some d)(h:Q d s):wpAny (model z.a z.b) c (eval (.Name x p) j) Q q s:=lZ (oF (by exact J y.a y.c) (by rw [y.d];exact(kN u).1) (by rw [y.b];exact w) o h) (kN u).2
theorem NX{m:Str->Option Value}{v x}{a4 a5 a6 l n G a0}{t c a1}{Q}(p:hF r sc L)(a7:eE sc v=true)(g:eE sc x=true)(l1:(l.endLine==G.line)=true)(l2:(n.endLine==a0.line)=true)(k:s.heap.Ns L m)(a8:m v=some (.str (Y t) a9))(a2:m x=some (.str (Y c) u))(h0:0<u)(a3:u<s.toks)(j:t.length<=ak)(hp:pO t c=some a1)(h:∀i f,s.toks<=f->Q (.str (Y a1) i) {s with toks:=f}):wpAny (model z.a z.b) b0 (eval (.Call (.Attribute (.Name v a4) "replace" l) [.Name x a5,.Call (.Attribute (.Name x a6) "strip" n) [] [] a0] [] G) r) Q q s:=by
 refine bB (EX hp) λa w b Z U=>?_;subst Z;refine ae U λW D=>?_;subst D;refine Call_method2 rfl rfl l1 (qL p a7 k a8 ?_);refine(ax ("str") ("str.replace") ⟨lh,xY,xZ,jk _ _ _,λO e=>(by cases e),?_⟩);refine mc rfl (nk (jl (qL p g k a2 (jl (Call_method0 rfl l2 (qL p g k a2 (MethodOnS.str0 PySem.F.slot_str_strip PySem.F.type_str_strip PySem.F.entry_str_strip (PySem.F.args_str_strip_1 _) (gives_str_strip _ _) ?_)))))));have y:=FC [a,w];replace y:=W▸y;have o:stripSame Unicode.isSpace true true (Y [a,w])=false:=by induction C:stripSame Unicode.isSpace true true (Y [a,w])with|false=>rfl|true=>exfalso;unfold Txt.strip Txt.stripBy at y;replace y:=C▸y;replace y:=(if_pos rfl)▸y;replace y:=(propext ke)▸y;simp at y
 have d:PySem.stripped Unicode.isSpace true true (Y [a,w])=Y [b]:=by unfold Txt.strip Txt.stripBy at y;replace y:=o▸y;replace y:=(if_neg iD)▸y;exact y
 refine J o (J (if_neg iD) ?_);refine J d ?_;refine⟨by refine J (fE _) (J gB ?_);simp,lY ?_⟩;refine ni (n:=s.toks) (s:={s with toks:=s.toks+1}) (e_ _) (SC.replaceW (x:=Y t) (y:=Y [a,w]) (z:=Y [b]) (u:=u) (v:=s.toks) (sK.mp h0) (sK.mp (lX h0 a3)) (iJ a3) ?_ (by refine J (fE _) ?_;unfold ak at j;exact ac j (by decide)) (by refine J (fE _) ?_;simp) λi f F=>?_);. refine J (propext dA) ?_;intro h;replace h:=(propext ke)▸h;simp at h
 . exact J (OT _ _ _ _) (h i f F)
theorem P8{m:Str->Option Value}{v x}{l n a d f}{t}{Q:Value->Shared->Prop}(p:hF g r L)(G:eE r v=true)(w:eE r x=true)(l1:(d.endLine==f.line)=true)(k:s.heap.Ns L m)(a0:m v=some (.str (Y t) a2))(a1:m x=some (.str (Y [c]) u))(b:0<u)(i:u<s.toks)(y:t.length<=ak)(hc:c≠32)(h:∀o j,s.toks<=j->Q (.str (Y (dQ c [32] t)) o) {s with toks:=j}):wpAny (model z.a z.b) a3 (eval (.Call (.Attribute (.Name v l) "replace" d) [.Name x n,.Constant (.str ⟨#[32]⟩) a4 a] [] f) g) Q q s:=by
 refine Call_method2 rfl rfl l1 (qL p G k a0 ?_);refine(ax ("str") ("str.replace") ⟨lh,xY,xZ,jk _ _ _,λO e=>(by cases e),?_⟩);refine mc rfl (nk (jl (qL p w k a1 (jl (nj (lY ?_))))));refine ni (n:=s.toks) (s:={s with toks:=s.toks+1}) (e_ _) (SC.replaceW (x:=Y t) (y:=Y [c]) (z:=Y [32]) (u:=u) (v:=s.toks) (sK.mp b) (sK.mp (lX b i)) (iJ i) ?_ (by refine J (fE _) ?_;unfold ak at y;exact ac y (by decide)) (by refine J (fE _) ?_;simp) λo j Z=>?_);. refine J (propext dA) ?_;intro h;rw [ke]at h;simp at h;exact hc h
 . exact J (EB _ _ _) (h o j Z)
theorem QT{m}{v}{p t}{r}(c:hF j b L)(e:eE b v=true)(i:s.heap.Ns L m)(f:∀j,swapsWith rhs (some (.Name v p)) t.line j=pure false)(l:∀Q:Value->Shared->Prop,(∀g u,s.toks<=u->Q (.str (Y n) g) {s with toks:=u})->wpAny (model z.a z.b) x (eval rhs j) Q q s)(k:∀g w u,s.toks<=u->w.Ns L (λy=>if y=v then some (.str (Y n) g)else m y)->Heap.SameBut L s.heap w->r .next {s with heap:=w,toks:=u}):wpAny (model z.a z.b) x (execs [.Assign [.Name v p] rhs t] j) r q s:=by refine no (wpAny_Assign_Name (l _ λg u a=>ql (m:=m) (by rw [c.d];exact(kN e).1) (by rw [c.b];exact i) (λw o d=>?_) c.e) (f j));rw [c.b]at o d;exact oH (k g w _ (ac a (e_ _)) o d)
theorem Jh:∀(u:List (B×Nat×Pos))(s:Shared)(Q:List Value->Shared->Prop),(∀g j,s.toks<=j->g.length=u.length->(∀(i:Nat)(c:B×Nat×Pos),u[i]?=some c->∃t,g[i]?=some (Value.str (Y c.1) t)/\s.toks<=t/\t<j)->Q g {s with toks:=j})->wpAny (model z.a z.b) l (spliced ((u.map λc=>Expr.Constant (.str ⟨c.1.toArray⟩) c.2.1 c.2.2).map λy=>(false,eval y o))) Q q s:=by intro d;induction d with|nil=>intro s Q h;exact lY (h [] s.toks (aH _) rfl (λi c e=>C e))|cons c u f=>intro s Q h;refine jl (nj (f _ _ λg j w m p=>?_));refine h _ j (ac (e_ _) w) (by simp [m]) λi r e=>?_;induction i using Nat.casesOn with|zero=>replace e:=ag e;subst e;exact⟨s.toks,rfl,aH _,w⟩|succ i=>refine gn (p i r (by simpa using e)) λt v k b=>?_;exact⟨t,by simpa using v,ac (e_ _) k,b⟩
theorem Ji(u:List (B×Nat×Pos))p:backTo p (starEach (u.map λc=>Expr.Constant (.str ⟨c.1.toArray⟩) c.2.1 c.2.2) j)=(u.map λc=>Expr.Constant (.str ⟨c.1.toArray⟩) c.2.1 c.2.2).map λy=>(false,eval y j):=by
 have h:starEach (u.map λc:B×Nat×Pos=>Expr.Constant (.str ⟨c.1.toArray⟩) c.2.1 c.2.2) j=((u.map λc:B×Nat×Pos=>Expr.Constant (.str ⟨c.1.toArray⟩) c.2.1 c.2.2).map λy=>eval y j).map λy=>(false,y):=by induction u with|nil=>rfl|cons c u g=>exact aJ (λO=>_::O) g
 refine J h ?_;refine J (yQ _) ?_;refine J di ?_;rfl
theorem QU{v x}{m:Str->Option Value}{g}{d:Str->Option Value}(a:cJ z b6 sc t b7 b3 L Q G σ r s)(a4:t.Nodup)(a5:t[a6]?=some v)(a2:t[a3]?=some x)(a8:a6≠a3)(hk:∀b o,b≠L->s.heap.get? b=some o->a0.get? b=some o)(a9:a0.Ns L m)(b4:m v=some (.str (Y b0) b8))(a7:b0.length<=ak)(a1:∀l,g=some l->∃u,m x=some (.str (Y l) u)/\l.length<=ak)(b1:g=none->m x=d x)(b5:∀y,y≠v->y≠x->m y=d y)(b2:∀(i:Nat)(y:Str)(u:V),t[i]?=some y->r[i]?=some (some u)->∃n,d y=some n/\z.e Q G u n):z.c Q G σ a0/\dv [L] Q G σ s.heap Q G σ a0/\z.j Q G L t ((match g with|some c=>r.set a3 (some (.a c))|none=>r).set a6 (some (.a b0))) a0:=by
 have Z:∀b o,b∉[L]->s.heap.get? b=some o->a0.get? b=some o:=λb o U e=>hk b o (by simpa using U) e;refine⟨Mp.aF.v a.a (n:=[L]) (λb U=>by exact J (bF.mp U) ⟨a.b.d,a.b.a⟩) Z,(a.e (cp.j a.a)).t Z λb U o e=>by refine J (bF.mp U) (bB a9 λo O O E O=>?_);exact⟨o,E⟩,?_⟩;have f:(match g with|some c=>r.set a3 (some (.a c))|none=>r).length=r.length:=by clear b1 a1;induction g<;>simp
 refine⟨by refine fZ.trans (f.trans ?_);exact a.b.b,⟨m,a9,λj y u W w=>?_⟩,a.b.a,a.b.d⟩;have C:∀{i j:Nat}{y:Str},t[i]?=some y->t[j]?=some y->i=j:=λF M=>by obtain⟨X,I⟩:=bo.mp F;obtain⟨A,N⟩:=bo.mp M;exact(oG a4).mp (I.trans N.symm)
 by_cases P:j=a6;. clear a8;subst P;refine J (ag (a5.symm.trans W)).symm ?_;replace w:=(kr (by(refine J f (J a.b.b ?_));exact(bo.mp a5).1))▸w;cases w;exact⟨_,b4,hH a7⟩
 . replace w:=(lg (fv P)).symm.trans w;have B:y≠v:=λh=>P (C W (h▸a5));by_cases k:j=a3
   . clear f a8;subst k;clear B;refine J (ag (a2.symm.trans W)).symm ?_;refine fC (o:=g) (λp=>?_) λl p=>?_;. replace w:=p▸w;refine D (b2 j x u a2 w) λn T R=>?_;exact⟨n,by exact(b1 p).trans T,R⟩
     . replace w:=p▸w;dsimp only at w;replace w:=(kr (by(refine J a.b.b ?_);exact(bo.mp a2).1))▸w;cases w;refine D (a1 l p) λu F M=>?_;exact⟨_,F,hH M⟩
   . have K:y≠x:=λh=>k (C W (h▸a2));have S:r[j]?=some (some u):=by
      refine fC (o:=g) (λp=>?_) λl p=>?_;. replace w:=p▸w;exact w
      . replace w:=p▸w;dsimp only at w;exact((lg (fv k))▸w)
     refine D (b2 j y u W S) λn T R=>?_;exact⟨n,by exact(b5 y B K).trans T,R⟩
end
noncomputable def pR(z:B->B->Option B):B->List B->Option B|t,[]=>some t|t,c::y=>(z t c).bind λq=>pR z q y
theorem NY:∀z t,so t z=pR pO t z:=by intro y;induction y with|nil=>intro O;exact rfl|cons c z q=>intro t;exact aJ ((pO t c).bind .) (funext λj=>q j)
def rP(t c:B):Option B:=match c with|[c]=>if c=32 then none else some (dQ c [32] t)|_=>none
theorem P9:∀z t,pV t z=pR rP t (z.map λc=>[c]):=by intro y;induction y with|nil=>intro O;exact rfl|cons c z q=>
intro t;refine(?_:(if c=32 then none else pV (dQ c [32] t) z)=(if c=32 then none else some (dQ c [32] t)).bind λt=>pR rP t (z.map λc=>[c]));split;. rfl
. exact q _
inductive GV(s:Shared)(q:Nat)(g:List B)(f:Nat->Heap->Prop)(L:Addr)(v x:Str)(z:Str->Option Value)(w:B->B->Option B)(p:B)(n:Nat)(r:Shared):Prop|a(i:Nat)(h:Heap)(d:Nat)(m:Str->Option Value)(t:B)(k:Tok)(_:r={s with heap:=h,toks:=d})(_:n=g.length+1-i)(_:i<=g.length)(_:q<=d)(_:f i h)(_:∀b o,b≠L->s.heap.get? b=some o->h.get? b=some o)(_:h.Ns L m)(_:m v=some (.str (Y t) k))(_:t.length<=ak)(_:∀y,y≠v->y≠x->m y=z y)(_:i=0->m x=z x)(_:∀j c,i=j+1->g[j]?=some c->∃u,m x=some (.str (Y c) u))(_:pR w t (g.drop i)=some p)
theorem FH{a1}{rhs}{b6 b7}{v x}{d8 c7 c8}{a3}{g}{a5:Nat->Heap->Prop}{a7}{φ}{σ}{ρ}{s}{p a0}{c9:Tok}{z:Str->Option Value}{d:Heap}{q:Nat}{d0:Result->Shared->Prop}(a:cJ G e6 sc nm b4 a2 L a7 φ σ ρ s)(a8:nm.Nodup)(d1:nm[b6]?=some v)(d2:nm[b7]?=some x)(d3:b6≠b7)(d4:eE sc v=true)(b8:eE sc x=true)(a9:∀a2,swapsWith rhs (some (.Name v c7)) c8.line a2=pure false)(d9:∀t c a0,a1 t c=some a0->a0.length<=t.length)(a4:∀(b0:Value->Shared->Prop)(s:Shared)m t c a0 b9 u(Q:Value->Shared->Prop),s.heap.Ns L m->m v=some (.str (Y t) b9)->m x=some (.str (Y c) u)->0<u->u<s.toks->t.length<=ak->a1 t c=some a0->(∀c0 f,s.toks<=f->Q (.str (Y a0) c0) {s with toks:=f})->wpAny (model G.a G.b) b4 (eval rhs a2) Q b0 s)(e0:∀(b0:Value->Shared->Prop)i h f c(Q:Option Value->Shared->Prop),a5 i h->g[i]?=some c->q<=f->(∀u w a6,0<u->u<a6->f<=a6->a5 (i+1) w->(∀b o,b≠a3->h.get? b=some o->w.get? b=some o)->Q (some (.str (Y c) u)) {s with heap:=w,toks:=a6})->wpAny (model G.a G.b) b4 (pyNext (.ref a3)) Q b0 {s with heap:=h,toks:=f})(e1:∀(b0:Value->Shared->Prop)h f(Q:Option Value->Shared->Prop),a5 g.length h->(∀w,(∀b o,b≠a3->h.get? b=some o->w.get? b=some o)->Q none {s with heap:=w,toks:=f})->wpAny (model G.a G.b) b4 (pyNext (.ref a3)) Q b0 {s with heap:=h,toks:=f})(d5:∀i h w,a5 i h->Heap.SameBut L h w->a5 i w)(c1:∀c∈g,c.length<=ak)(k0:a5 0 d)(c2:∀b o,s.heap.get? b=some o->d.get? b=some o)(c3:s.toks<=q)(c4:s.heap.get? a3=none)(b5:d.Ns L z)(e2:∀(i:Nat)(y:Str)(u:V),nm[i]?=some y->ρ[i]?=some (some u)->∃d6,z y=some d6/\G.e a7 φ u d6)(b1:z v=some (.str (Y p) c9))(e3:p.length<=ak)(e4:pR a1 p g=some a0)(k:∀w f,s.toks<=f->G.c a7 φ σ w->dv [L] a7 φ σ s.heap a7 φ σ w->G.j a7 φ L nm ((match g.getLast? with|some c=>ρ.set b7 (some (.a c))|none=>ρ).set b6 (some (.a a0))) w->d0 (.ok .next) {s with heap:=w,toks:=f}):codeAny (model G.a G.b) b4 (.forLoop (.Name x d8) (.ref a3) [.Assign [.Name v c7] rhs c8] [] a2) d0 {s with heap:=d,toks:=q}:=by
 have I:L≠a3:=λh=>by refine av (a.b.k) λo e=>?_;replace e:=h▸e;replace e:=c4▸e;exact C e
 have N:x≠v:=λh=>by clear b1 a4 a9 d4;subst h;obtain⟨p1,p2⟩:=bo.mp d1;obtain⟨q1,q2⟩:=bo.mp d2;exact d3 ((oG a8).mp (p2.trans q2.symm))
 refine codeAny_forLoop_any (GV s q g a5 L v x z a1 a0) ?_ (g.length+1) ⟨0,d,q,z,p,c9,rfl,rfl,eT _,aH _,k0,λb o O e=>c2 b o e,b5,b1,e3,λO O O=>rfl,λO=>rfl,λj c e=>by lia,by simpa using e4⟩;rintro n s'⟨i,h,f,m,t,b9,rfl,rfl,hi,K,Ki,hk,b5,b1,B,S,X,vn,F⟩;rcases qk i g.length with r|A
 . have hd:g.drop i=g[i]::g.drop (i+1):=dT r;replace F:=hd▸F;refine aP F λU o1 F=>?_;have FD:g[i]?=some g[i]:=cH r;refine e0 _ i h f g[i] _ Ki FD K λu P W Qz hu e5 T D=>?_;refine oI (a:=()) rfl (sJ (ql (m:=m) (by rw [a.c.d];exact(kN b8).1) (by rw [a.c.b];exact(iu b5 (g:=P) λo e=>D L o I e)) (λZ gY H=>?_) a.c.e));rw [a.c.b]at gY H;have H:Heap.SameBut L P Z:=H;have CM:=d5 _ _ _ T H;refine QT (s:={s with heap:=Z,toks:=W+1}) (n:=U) a.c d4 gY a9 (λQ hQ=>a4 _ {s with heap:=Z,toks:=W+1} _ t g[i] U b9 u Q gY (by simp only [if_neg (Ne.symm N)];exact b1) (by simp) Qz (Nat.lt_succ_of_lt hu) B o1 hQ) λc0 R E lu FV lr=>?_;have lr:Heap.SameBut L Z R:=lr;refine⟨_,ud r,i+1,R,E,_,U,c0,rfl,rfl,r,ac K (ac e5 (bC lu)),d5 _ _ _ CM lr,λb o hb e=>?_,FV,by simp,ac (d9 _ _ _ o1) B,λy b2 vr=>by simp only [if_neg b2,if_neg vr];exact S y b2 vr,λh=>by lia,λj c ej ec=>?_,F⟩
   . have PP:b≠a3:=λh=>by replace e:=h▸e;replace e:=c4▸e;exact C e
     exact(lr.2 b hb).trans ((H.2 b hb).trans (D b o PP (hk b o hb e)))
   . clear FV CM gY T F o1 hd vn X Ki hi;clear F;obtain rfl:j=i:=by lia
     exact J (ag (FD.symm.trans ec)) ⟨u,by simp only [if_neg N];simp⟩
 . have qS:i=g.length:=gk hi A;clear A hi;subst qS;replace F:=qx▸F;cases F;refine e1 _ h f _ Ki λw b3=>oH ?_;have c5:=iu b5 (g:=w) λo e=>b3 L o I e;have c6:∀l,g.getLast?=some l->∃u,m x=some (.str (Y l) u)/\l.length<=ak:=λl M=>by
    replace M:=List.getLast?_eq_getElem?▸M;have d7:0<g.length:=by
     rcases Nat.eq_zero_or_pos g.length with h|h;. exact C ((List.length_eq_zero_iff.mp h)▸M)
     . exact h
    refine av (vn (g.length-1) l (by lia) M) λu hu=>?_;exact⟨u,hu,c1 l (cq M)⟩
   have Qa:g.getLast?=none->m x=z x:=λM=>by refine X ?_;replace M:=(propext List.getLast?_eq_none_iff)▸M;exact J M rfl
   refine bk (QU (b0:=a0) (g:=g.getLast?) (d:=z) a a8 d1 d2 d3 (a0:=w) (λb o hb e=>b3 b o (λh=>by replace e:=h▸e;replace e:=c4▸e;cases e) (hk b o hb e)) c5 b1 B c6 Qa S e2) λS' x' l'=>?_;exact k w f (ac c3 K) S' x' l'
theorem ck.P{a0 z}{c0 c2 c3 c4 c5 c6 c8 b3 c9 b4 c7 d0}(a3:nm.Nodup)(b5:nm[b6]?=some a0)(d1:nm[d2]?=some z)(b7:eE sc a0=true)(a1:eE sc z=true)(l1:(c8.endLine==c9.line)=true)(l2:(b3.endLine==b4.line)=true)(a2:n.length<29)(a4:∀c∈n,c.1.length<=ak):ck d3 d8 sc nm (.For (.Name z c2) (.Tuple (n.map λc=>.Constant (.str ⟨c.1.toArray⟩) c.2.1 c.2.2) d9 c0) [.Assign [.Name a0 c3] (.Call (.Attribute (.Name a0 c4) "replace" c8) [.Name z c5,.Call (.Attribute (.Name z c6) "strip" b3) [] [] b4] [] c9) c7] [] d0) (λρ σ=>EZ b6 d2 n ρ σ):=by
 intro A E s d4 φ σ ρ a5 d5 fl d6 d7 B e a k;refine aP e λw e0 I=>?_;refine aP I λb8 h1 N=>?_;refine FV N λa6 S=>?_;refine cb S λt' e1 q4=>?_;clear e I N S;obtain rfl:=V.o h1;clear h1;cases q4;rw [NY]at e1;have e0:=yw e0;refine wpAny_For (wpAny_Tuple_spliced ?_);refine J (Ji _ _) (Jh (z:=d3) n s _ λZ XS Qx U a7=>⟨by refine J U ?_;refine J gB ?_;exact ac (bC a2) (by decide),?_⟩);generalize hT:s.heap.objs.size=j;have PO:s.heap.get? j=none:=by exact J (aN hT) (gc _)
 have zK:(s.heap.push {cls:=.type "tuple",data:=.seq Z.toArray}).get? j=some (kQ Z 0):=by exact J (aN hT) (gj _ rfl)
 have FA:(s.heap.push {cls:=.type "tuple",data:=.seq Z.toArray}).IsTuple j Z.toArray:=⟨_,zK,rfl,0,rfl⟩;refine wpAny_pyIter_tuple (s:={s with heap:=_,toks:=XS}) FA ?_;generalize hH:s.heap.push {cls:=.type "tuple",data:=.seq Z.toArray}=H at*;generalize hI:H.objs.size=f;have qO:∀b o,s.heap.get? b=some o->H.get? b=some o:=λb o e=>by exact J (aN hH) (gZ _ e)
 have W:H.get? f=none:=by exact J (aN hI) (gc _)
 have a8:j≠f:=λh=>by rw [h,W]at zK;exact C zK
 have M:s.heap.get? f=none:=by induction e:s.heap.get? f with|none=>rfl|some o=>exact C (W.symm.trans (qO _ _ e))
 refine av (a.b.k) λoL X=>?_;have a9:a5≠f:=λh=>by rw [h,M]at X;exact C X
 have PI:a5≠j:=λh=>by rw [h,PO]at X;exact C X
 have T:∀b o,s.heap.get? b=some o->(H.push {cls:=.type "tuple_iterator",data:=.fields #[.ref j,.int 0 0]}).get? b=some o:=λb o e=>gZ _ (qO b o e);refine D (a.b.c) λb9 hn hm=>?_;refine D (hm b6 a0 _ b5 e0) λrv r1 r2=>?_;refine D r2 λtv z1 cQ=>?_;subst z1;refine FH (s:=s) (a1:=pO) (g:=n.map (λp=>p.1)) (a5:=λi h=>h.IsTupleIter f j i/\h.IsTuple j Z.toArray) a a3 b5 d1 (λh=>a6 (.inl h)) b7 a1 (λp=>rfl) (λt c t' h=>?_) (λE s m t c t' tv b0 B I N S q4 q5 q6 q7 q8=>NX a.c b7 a1 l1 l2 I N S q4 q5 q6 q7 q8) (λE i h g c B q hc b1 kk=>?_) (λE h g B q kk=>?_) (λi h l q hs=>?_) (λc hc=>?_) ⟨?_,?_⟩ T Qx M (iu hn λo e=>T a5 o e) hm r1 cQ e1 λl g ht S' x' l'=>?_;. refine hg (EX h) λa a' b p p z2=>?_;subst z2;exact wZ a a' b t
 . rw [hw]at hc;refine D (fI.mp hc) λc' c1 z3=>?_;subst z3;refine gn (a7 i c' c1) λb0 u1 u2 u3=>?_;refine fx (wpAny_toks_of (s:={s with heap:=h,toks:=g}) (n:=g) (aH _) (wpAny_pyNext_tuple_item (s:={s with heap:=h,toks:=g}) (Q:=λr s'=>g<=s'.toks->B r s') q.1 q.2 (x:=.str (Y c'.1) b0) (by simpa using u1) λl zR d ht=>?_)) (λp p z=>z.2 z.1) (λp p z=>z.2);have d:Heap.SameBut f h l:=d;exact kk b0 l g (bl a.h u2) (bl u3 b1) ht ⟨zR,q.2.extBut d.extBut a8⟩ λb o hb e=>(d.2 b hb).trans e
 . rw [bU,<-U]at q;refine wpAny_pyNext_tuple_end (s:={s with heap:=h,toks:=g}) a.f.a q.1 q.2 (by simp) λl b2=>kk l λb o hb e=>b2 b o hb e
 . exact⟨q.1.at λo e=>(hs.2 f (fv a9)).trans e,q.2.at λo e=>(hs.2 j (fv PI)).trans e⟩
 . refine D (cG.mp hc) λc' c1 z4=>?_;subst z4;exact a4 c' c1
 . exact⟨_,by exact J (aN hI) (gj _ rfl),rfl,rfl⟩
 . exact FA.push _
 . refine k .next d4 φ l g ht S' x' ?_ rfl;induction ge:n.getLast? with|none=>rw [sL,ge]at l';exact l'|some c=>rw [sL,ge]at l';exact l'
theorem ck.R{r a0}{b2 b3}{b4 b5 b6 b7 b8 b9 c8 c9 c0 c2}(a1:nm.Nodup)(a5:nm[a6]?=some r)(c3:nm[c4]?=some a0)(a7:eE sc r=true)(l:eE sc a0=true)(l1:(c8.endLine==c9.line)=true)(n:c.all (λa8=>a8<128)=true):ck d1 d2 sc nm (.For (.Name a0 b5) (.Constant (.str ⟨c.toArray⟩) b2 b4) [.Assign [.Name r b6] (.Call (.Attribute (.Name r b7) "replace" c8) [.Name a0 b8,.Constant (.str ⟨#[32]⟩) b3 b9] [] c9) c0] [] c2) (λρ σ=>Eg a6 c4 c ρ σ):=by
 intro A E s c5 φ σ ρ a9 c6 fl c7 d0 N e a k;refine aP e λw S W=>?_;refine aP W λb0 h1 M=>?_;refine FV M λX T=>?_;refine cb T λt' e1 H=>?_;clear e W M T;obtain rfl:=V.o h1;clear h1;cases H;rw [P9]at e1;have S:=yw S;refine wpAny_For (nj ?_);refine wpAny_pyIter_ascii (x:=Y c) (by simpa [Y]using n) ?_;generalize hI:s.heap.objs.size=B;have Z:s.heap.get? B=none:=by exact J (aN hI) (gc _)
 refine av (a.b.k) λoL kh=>?_;have a2:a9≠B:=λh=>by rw [h,Z]at kh;exact C kh
 have U:∀b o,s.heap.get? b=some o->(s.heap.push {cls:=.type "str_ascii_iterator",data:=.fields #[.str (Y c) s.toks,.int 0 0]}).get? b=some o:=λb o e=>gZ _ e;refine D (a.b.c) λb1 hn hm=>?_;refine D (hm a6 r _ a5 S) λrv r1 r2=>?_;refine D r2 λtv z5 cQ=>?_;subst z5;refine FH (s:=s) (a1:=rP) (g:=c.map λc=>[c]) (a5:=λi h=>h.IsStrIter B "str_ascii_iterator" (Y c) s.toks i) (q:=s.toks+1) a a1 a5 c3 (λh=>X (.inl h)) a7 l (λa8=>rfl) (λt c t' h=>?_) (λE s m t c t' tv d3 N W M T H q5 q6 g q8=>?_) (λE i h z c' N f p a3 kk=>?_) (λE h z N f kk=>?_) (λi h q f hs=>?_) (λc' p=>?_) ?_ U (e_ _) Z (iu hn λo e=>U a9 o e) hm r1 cQ e1 λq z ht S' x' I=>?_
 . unfold rP at h;split at h
   . split at h;. exact C h
     . obtain rfl:=ag h;exact J (Ez _ _ _) (aH _)
   . exact C h
 . unfold rP at g;split at g
   . split at g;. exact C g
     . rename_i p;obtain rfl:=ag g;exact P8 a.c a7 l l1 W M T H q5 q6 p q8
   . exact C g
 . rw [hw]at p;refine D (fI.mp p) λd c1 z6=>?_;subst z6;refine wpAny_pyNext_ascii_item (s:={s with heap:=h,toks:=z}) f (c:=d) (by simpa [Y]using c1) λq zR j=>?_;have j:Heap.SameBut B h q:=j;exact kk z q (z+1) (by have:=a.h;exact bl this (bC a3)) (li _) (e_ _) zR λb o hb e=>(j.2 b hb).trans e
 . rw [bU]at f;exact wpAny_pyNext_ascii_end (s:={s with heap:=h,toks:=z}) a.f.a f (by simp [Y]) λq a4=>kk q λb o hb e=>a4 b o hb e
 . exact f.extBut hs.extBut (fv a2)
 . refine D (cG.mp p) λd c1 z7=>?_;subst z7;simp [ak]
 . exact⟨_,by exact J (aN hI) (gj _ rfl),rfl,rfl⟩
 . refine k .next c5 φ q z ht S' x' ?_ rfl;induction ge:c.getLast? with|none=>rw [sL,ge]at I;exact I|some d=>rw [sL,ge]at I;exact I
noncomputable def sS:aV->Bool|.f ..=>true|.c ..=>true|.s ..=>true|.k ..=>true|.n ..=>true|.r ..=>true|.h ..=>true|.b ..=>true|.i ..=>true|.o ..=>true|.t ..=>true|.a ..=>true|.q ..=>true|.m ..=>true|.e ..=>true|.d ..=>true|.g _ z _ _=>!z.isEmpty|.p _ z _ _=>!z.isEmpty|.j ..=>true|.l ..=>true
def AP(z:Scope)(x:Str):Bool:=z.names.all (λy=>decide (y.2≠.free)&&decide (y.2≠.cell)&&(decide (y.2≠.local)||decide (z.names.lookup y.1=some .local)))&&decide (z.kind=.function)&&eE z x
mutual noncomputable def en(q:fK)(j:Nat):Scope->List Str->aV->Bool|_,_,.f c _ _=>vy c|z,y,.c i _=>decide (i<y.length)&&eE z (bK y i)|z,_,.s k _=>gH z (bK q.b k)|z,y,.k _ u _=>!u.isEmpty&&gd q j z y u|z,y,.n _ a b _=>en q j z y a&&en q j z y b|z,y,.r a _=>en q j z y a|z,y,.h a _=>en q j z y a|z,y,.b c a b _=>en q j z y c&&(en q j z y a&&en q j z y b)|z,y,.i _ a b _=>en q j z y a&&en q j z y b|z,y,.o a f _=>decide (f<4)&&(sS a&&en q j z y a)|z,y,.t a i _=>en q j z y a&&en q j z y i|z,y,.a a t r _ _=>en q j z y a&&((decide (t.length<=1)&&gd q j z y t)&&(decide (r.length<=1)&&gd q j z y r))|z,y,.q _ u _=>decide (u.length<29)&&gd q j z y u|z,y,.m u _ _=>decide (u.length<29)&&gd q j z y u|_,_,.e _ l _=>l.all vz&&decide (l.length<=15)|z,y,.d _ d x _ w v _ _ o g _=>AP g x&&((vA z w v.length&&gd q j z y v)&&((decide (o.length<=1)&&gd q j g [x] o)&&en q j g [x] d))|z,y,.g k u _ _=>(decide (k<j)&&(decide (k<q.a.length)&&gH z (bK q.a k)))&&(decide (u.length<29)&&gd q j z y u)|z,y,.p b u _ _=>gH z b.e&&(decide (u.length<29)&&gd q j z y u)|z,y,.j _ a u m p=>(sS a&&(m.endLine==p.line))&&(en q j z y a&&(decide (u.length<29)&&gd q j z y u))|z,y,.l a _ _ _ _ _ _ m p=>(sS a&&(m.endLine==p.line))&&en q j z y a noncomputable def gd(q:fK)(j:Nat):Scope->List Str->List aV->Bool|_,_,[]=>true|z,y,e::u=>en q j z y e&&gd q j z y u noncomputable def vA(z:Scope):Nat->Nat->Bool|0,n=>n==1|1,n=>gH z "range"&&decide (n<29)|2,n=>gH z "range"&&decide (n<29)|_,_=>false end
theorem RA q j e y z:starEach (co q j e::z) y=(false,eval (co q j e) y)::starEach z y:=by induction e using aV.casesOn<;>rfl
theorem wX q j y e(h:sS e=true)z:attributeBase (co q j e) y z (eval (co q j e) z)=eval (co q j e) z:=by induction e using aV.casesOn with
|g k u=>induction u using List.casesOn<;>first|rfl|exact am h
|p k u=>induction u using List.casesOn<;>first|rfl|exact am h
|_=>rfl
theorem Fc z y q e:behindInMarks q (co z y e)=false:=by induction e using aV.casesOn<;>rfl
theorem Ry y q e z v:foldedSetIterable (co y q e) z v=pure v:=by induction e using aV.casesOn<;>rfl
theorem Rx y q:∀z,(ed y q z).length=z.length:=by intro j;induction j with|nil=>exact rfl|cons e z u=>refine(?_:(ed y q z).length+1=_);exact J (u) rfl
theorem nH{z}(h:i<z.length):z[i]?=some (bK z i):=by unfold bK;refine J hY ?_;refine J (cH h) ?_;rfl
theorem AQ(h:AP z x=true):(∀y∈z.names,y.2≠.free)/\(∀y∈z.names,y.2≠.cell)/\z.kind=.function/\(∀y∈z.names,y.2=.local->z.names.lookup y.1=some .local)/\z.names.lookup x=some .local:=by
 refine ch h λh u=>?_;refine ch h λh g=>?_;have h:=cs.mp h;refine⟨λy q=>?_,λy q=>?_,bt g,λy q w=>?_,(kN u).1⟩;. exact bt (aE (aE (h y q)).1).1
 . exact bt (aE (aE (h y q)).1).2
 . have:=(aE (h y q)).2;rw [nq]at this;refine this.elim (λj=>?_) λj=>?_;. exact absurd w (bt j)
   . exact bt j
section
variable{f:Nat}
variable(g:fm q y G d w u)(c:∃o,q.d.get? sysModules=some o)(t:f<=j)(r:∀k,k<f->hE q z k (u k))
def fH(q:bW)(j:Nat)(y:fK)(G:ds)(z:dd)(v:Scope)(m:List Str)(e:aV):Prop:=aX q j v m (co y m e) (λp=>(aT G z e p).1)/\eL q j v m (co y m e) (λp=>(aT G z e p).2)
theorem fH.a7{i}{m}(h:∀p,aT G z e p=gh (m p))(s:∀l b,isTrue (co y i e) l b=(do let v<-b;standAt (co y i e).pos;holding [v] (truthy v)))(n:aX q j x i (co y i e) m):fH q j y G z x i e:=by
 have a:(λp=>(aT G z e p).1)=m:=by funext p;exact J (h p) rfl
 have Z:(λp=>(aT G z e p).2)=λp=>(gh (m p)).2:=by funext p;exact J (h p) rfl
 unfold fH;refine J a (J Z ?_);exact⟨n,eL.x n s⟩
theorem aX.F{l}{m}{i}(s:∀b0 v,letOwnedTupleGo a (.ref b0) v=pure ())(g:fm q y G d w u)(b:vA h m i.length=true)(a9:fX q j h l (ed y l i) (λx=>dC G z i x))(a7:∀e,i=[e]->aX q j h l (co y l e) (λx=>(aT G z e x).1)):gz q j h l a m (vN m (ed y l i) b1 p) (λx=>dC G z i x)/\∀a8 v,foldedSetIterable (vN m (ed y l i) b1 p) a8 v=pure v:=by match m,b with
|0,b=>have b:i.length=1:=eq_of_beq b;match i,b,a7 with|[e],_,a7=>exact⟨gz.O s (a7 e rfl),Ry y l e⟩
|1,b=>exact⟨gz.K g (aE b).1 s a9,λY Y=>rfl⟩|2,b=>exact⟨gz.G g (aE b).1 s a9,λY Y=>rfl⟩|n+3,b=>exact am b
end
section
variable{j:Nat}
def gU(u:bW)(g j:Nat)(q:fK)(G:ds)(z:dd)(e:aV):Prop:=∀m p,en q j m p e=true->fH u g q G z m p e
theorem mv{m}(i:∀e∈m,gU u g j q G z e){p}(l:m.length<29)(h:gd q j n p m=true):fX u g n p (ed q p m) (λs=>dC G z m s):=by induction m with|nil=>exact fX.F|cons e m x=>refine ch h λa Z=>?_;exact fX.z (λb v=>RA q p e b v) (by exact J (Rx _ _ _) (Nat.lt_of_succ_lt_succ l)) (i e (.head _) n p a).1 (x (λe Y=>i e (.tail _ Y)) (jK l) Z)
theorem wO(v:∀b∈[e],gU u g j q G z b){m}(h:gd q j p m [e]=true):aX u g p m (co q m e) (λi=>(aT G z e i).1):=(v e (.head _) p m (aE h).1).1
theorem Ep{m}(b:∀e∈m,gU u g j q G z e){p}(i:m.length<=1)(h:gd q j v p m=true):la u g v p (ed q p m).head? (λn=>dC G z m n):=by induction m using List.casesOn with|nil=>exact la.z|cons e l=>induction l using List.casesOn with|nil=>exact la.F (b e (.head _) v p (aE h).1).1|cons=>exact absurd i (by simp)
theorem Cv{m}(b:∀e∈m,gU u g j q G z e){p}(i:m.length<=1)(h:gd q j v p m=true):kl u g v p (ed q p m) (λn=>jP G z m n):=by induction m using List.casesOn with|nil=>exact kl.q|cons e l=>induction l using List.casesOn with|nil=>exact kl.u (b e (.head _) v p (aE h).1).2|cons=>exact absurd i (by simp)
theorem Od{p}:∀{m:List aV},(∀e∈m,gU u g j q G z e)->gd q j v p m=true->m≠[]->k_ u g v p l (ed q p m) (λn=>nM G z l m n):=by intro m H h;induction m with|nil=>exactλb=>absurd rfl b|cons e m s=>intro _;refine ch h λi x=>?_;induction m using List.casesOn with|nil=>exact k_.F (H e (.head _) v p i).1|cons Z m=>exact k_.z (H e (.head _) v p i).1 ((s (λe a=>H e (.tail _ a)) x) λk=>nomatch k)
theorem QB{p}{m}(v:∀e∈m,gU u g j q G z e)(h:gd q j b p m=true):lb u g b p i (ed q p m) (λl=>mO G z i m l):=by induction m with|nil=>exact lb.u|cons e m n=>refine ch h λs x=>?_;exact lb.q (v e (.head _) b p s).2 (n (λe a=>v e (.tail _ a)) x)
theorem DD:∀{m n:Nat},vA p m n=true->n<29|0,n,h=>by refine J (show n=1 from bt h) ?_;decide|1,_,h=>bt (aE h).2|2,_,h=>bt (aE h).2
variable(r:fm u q G f c y)(w:∃o,u.d.get? sysModules=some o)(d:j<=g)(t:∀k,k<j->hE u z k (y k))
include r w d t
theorem Qu m l p:gU u g j q G z (.e m l p):=by
 intro W D h;refine ch h λx Z=>?_;refine fH.a7 (m:=λO b=>if gu (eR l)then eU m (.e (eR l)) b else none) (λO=>rfl) (λO O=>rfl) λA E s F Y b J L i v n Q e a k=>?_;dsimp only at e;split at e;. rename_i U;exact aX.X w x (bt Z) U A E s F Y b J L i v n Q e a k
 . exact C e
theorem Qt{m}{Q}{v}(a1:gU u g j q G z n)(L:∀e∈Q,gU u g j q G z e)(a2:∀e∈v,gU u g j q G z e):gU u g j q G z (.d a0 n x a3 m Q a4 a5 v s p):=by intro P T h;refine ch h λY h=>?_;refine ch h λl h=>?_;refine ch l λl b=>?_;refine ch h λa J=>?_;refine ch a λa Z=>?_;refine hQ (AQ Y) λU W D C F=>?_;have i:=aX.F (b1:=a4) (p:=a5) (a:=.Name x a3) (λO O=>rfl) r l (mv L (DD l) b) (λe M=>by subst M;exact wO L b);exact fH.a7 (λO=>rfl) (λO O=>rfl) (aX.S U W D C F i.2 i.1 (Cv a2 (bt a) Z) (a1 s [x] J).1)
theorem Qs{i}(l:∀e∈i,gU u g j q G z e):gU u g j q G z (.g k i x p):=by intro a Z h;refine ch h λm b=>?_;refine ch b λb n=>?_;refine ch m λv m=>?_;refine ch m λm s=>?_;have v:=bt v;exact fH.a7 (λO=>rfl) (λO O=>rfl) (aX.Q r (bt m) s (bl v d) (t k v) (mv l (bt b) n))
theorem io e:gU u g j q G z e:=by refine aV.rec (motive_1:=gU u g j q G z) (motive_2:=λZ=>∀e∈Z,gU u g j q G z e) (λM k p n v h=>fH.a7 (λO=>rfl) (λO O=>rfl) (aX.W λl P=>by subst P;exact bt h)) (λi p n v h=>fH.a7 (λO=>rfl) (λO O=>rfl) (aX.a6 (nH (bt (aE h).1)) (kN (aE h).2).1 (kN (aE h).2).2)) (λk p n v h=>fH.a7 (λO=>rfl) (λO O=>rfl) (aX.ad r h)) (λX Z p H n v h=>⟨aX.P (Od H (aE h).2 (by simpa using(aE h).1)),eL.q (QB H (aE h).2)⟩) (λD a b p s Q n v h=>fH.a7 (λO=>rfl) (λO O=>rfl) (aX.O (s n v (aE h).1).1 (Q n v (aE h).2).1)) (λa p s n v h=>fH.a7 (λO=>rfl) (λO O=>rfl) (aX.a1 (s n v h).1)) (λa p s n v h=>⟨aX.a2 (s n v h).1,eL.w (s n v h).2⟩) (λM a b p C s Q n v h=>⟨aX.ai (C n v (aE h).1).2 (s n v (aE (aE h).2).1).1 (Q n v (aE (aE h).2).2).1,eL.v (C n v (aE h).1).2 (s n v (aE (aE h).2).1).2 (Q n v (aE (aE h).2).2).2⟩) (λD a b p s Q n v h=>⟨aX.R (Fc q v D b) (s n v (aE h).1).1 (Q n v (aE h).2).1,eL.u (Fc q v D b) (s n v (aE h).1).1 (Q n v (aE h).2).1⟩) (λa A p s n v h=>fH.a7 (λO=>rfl) (λO O=>rfl) (aX.K r (bt (aE h).1) (wX q v _ a (aE (aE h).2).1) (s n v (aE (aE h).2).2).1)) (λa i p s T n v h=>fH.a7 (λO=>rfl) (λO O=>rfl) (aX.aR (s n v (aE h).1).1 (T n v (aE h).2).1)) (λa lo hi ps p s R V n v h=>by refine ch h λJ h=>?_;refine ch h λY U=>?_;exact fH.a7 (λO=>rfl) (λO O=>rfl) (aX.a4 (s n v J).1 (Ep R (bt (aE Y).1) (aE Y).2) (Ep V (bt (aE U).1) (aE U).2))) (λW Z p H n v h=>fH.a7 (λO=>rfl) (λO O=>rfl) (aX.a0 (mv H (bt (aE h).1) (aE h).2))) (λZ k p H n v h=>fH.a7 (λO=>rfl) (λO O=>rfl) (aX.a5 (mv H (bt (aE h).1) (aE h).2))) (Qu r w d t) (λW K x B F it pi pj E I p=>Qt r w d t) (λk Z L p=>Qs r w d t) (λb Z L p H n v h=>fH.a7 (λO=>rfl) (λO O=>rfl) (aX.L r (aE h).1 (mv H (bt (aE (aE h).2).1) (aE (aE h).2).2))) (λm a Z N p s H n v h=>by refine ch h λJ Y=>?_;refine ch Y λY U=>?_;exact fH.a7 (λO=>rfl) (λO O=>rfl) (aX.Z (wX q v _ a (aE J).1) (aE J).2 (s n v Y).1 (mv H (bt (aE U).1) (aE U).2))) (λa x a0 kx ky B py N p s n v h=>by refine ch h λJ Y=>?_;exact fH.a7 (λO=>rfl) (λO O=>rfl) (aX.a3 (wX q v _ a (aE J).1) (aE J).2 (s n v Y).1)) (λO h=>absurd h fY) (λe Z S H e' h=>by cases h with|head=>exact S|tail _ h=>exact H _ h) e
end
mutual noncomputable def lI(q:fK)(j:Nat)(y:Scope)(z:List Str):dS->Bool|.a i _=>decide (i<z.length)&&eE y (bK z i)|.b u _=>sh q j y z u|.c a i _=>en q j y z a&&en q j y z i noncomputable def sh(q:fK)(j:Nat)(y:Scope)(z:List Str):List dS->Bool|[]=>true|t::u=>lI q j y z t&&sh q j y z u end
noncomputable def mJ:List dS->Option (List (Nat×Pos))|[]=>some []|.a i p::z=>(mJ z).map λl=>(i,p)::l|_::_=>none
noncomputable def qT:aV->Bool|.f ..=>false|.c ..=>false|.s ..=>false|.k ..=>false|.n ..=>false|.r ..=>false|.h ..=>false|.b ..=>false|.i ..=>false|.o ..=>false|.t ..=>false|.a ..=>false|.q ..=>false|.m ..=>false|.e ..=>false|.d ..=>true|.g ..=>false|.p ..=>false|.j ..=>false|.l ..=>false
noncomputable def rD:List Nat->Bool|[]=>true|x::l=>!l.contains x&&rD l
theorem OE:∀{l:List Nat},rD l=true->l.Nodup:=by intro z;induction z with|nil=>intro O;exact md|cons x l y=>intro h;refine ch (show(!l.contains x&&rD l)=true from h) λq j=>?_;exact hX.mpr ⟨by simpa using q,y j⟩
def xu(j:fK)(z:List Str)(d:Scope)(t:dS)(e:aV):Bool:=match t with|.a i g=>(match e with|.f ..=>true|.c ..=>true|.s ..=>true|.k ..=>true|.n ..=>true|.r ..=>true|.h ..=>true|.b ..=>true|.i ..=>true|.o ..=>true|.t ..=>true|.a ..=>true|.q ..=>true|.m ..=>true|.e ..=>true|.d _ _ _ _ _ _ _ _ _ y w=>(g.line==w.line)&&!(y.names.any λ(n,k)=>n==bK z i&&(k==.local||k==.cell))|.g ..=>true|.p ..=>true|.j ..=>true|.l ..=>true)|.b q _=>(match e with|.f ..=>true|.c ..=>true|.s ..=>true|.k ..=>true|.n ..=>true|.r ..=>true|.h ..=>true|.b ..=>true|.i ..=>true|.o ..=>true|.t ..=>true|.a ..=>true|.q ..=>true|.m u _ _=>(match mJ q with|some o=>rD (o.map (λO=>O.1))&&((ed j z u).all (foldedForSure 8)||!((ed j z u).all (constantsAlone 8)))|none=>decide (q.length≠2)&&decide (q.length≠3))|.e ..=>true|.d ..=>false|.g ..=>true|.p ..=>true|.j ..=>true|.l ..=>true)|.c ..=>!(qT e)
mutual noncomputable def pL(q:fK)(j:Nat)(y:Scope)(z:List Str):aY->Bool|.f t e _=>lI q j y z t&&(en q j y z e&&xu q z y t e)|.c e _=>!(qT e)&&en q j y z e|.a c a b _=>en q j y z c&&(kO q j y z a&&kO q j y z b)|.b _ t u g _ _ b _=>(lI q j y z t&&kO q j y z b)&&((decide (g.length<29)&&gd q j y z g)&&(match t with|.a _ _=>vA y u g.length|.b _ _=>decide (u=3)&&gH y "enumerate"|.c _ _ _=>false))|.e c b _=>en q j y z c&&kO q j y z b|.g d _=>decide (d.length<=1)&&gd q j y z d|.d _=>true|.h v x f _ _ _ _ _ _ _ w m o p _ _=>(decide (v<z.length)&&eE y (bK z v))&&((decide (x<z.length)&&eE y (bK z x))&&(((w.endLine==o.line)&&(m.endLine==p.line))&&(decide (f.length<29)&&f.all λc=>decide (c.1.length<=ak))))|.i v x c _ _ _ _ _ _ _ _ w o _ _=>(decide (v<z.length)&&eE y (bK z v))&&((decide (x<z.length)&&eE y (bK z x))&&((w.endLine==o.line)&&c.all (λO=>O<128)))noncomputable def kO(q:fK)(j:Nat)(y:Scope)(z:List Str):List aY->Bool|[]=>true|s::r=>pL q j y z s&&kO q j y z r end
theorem Fd q j:∀t y z,assignEach (gM q j t::z) y=(false,PySem.assign (gM q j t) y)::assignEach z y|.a ..,_,_|.b ..,_,_|.c ..,_,_=>rfl
theorem vO y q:∀z,(lx y q z).length=z.length:=by intro j;induction j with|nil=>exact rfl|cons t z u=>refine(?_:(lx y q z).length+1=_);exact J (u) rfl
theorem Fe y q t l e(h:qT e=false)z:swapsWith (co y q e) t l z=pure false:=by induction e using aV.casesOn<;>first|rfl|exact am h.symm
theorem Fb j q:∀(z:List dS)(y:List (Nat×Pos)),mJ z=some y->lx j q z=y.map λt=>Expr.Name (bK q t.1) t.2|[],y,h=>by exact J (ag h).symm rfl|.a i p::z,y,h=>by refine cb h λl u g=>?_;refine J g.symm (?_:_::lx j q z=_);exact J (Fb j q z l u) rfl|.b ..::z,y,h=>C h|.c ..::z,y,h=>C h
theorem RF:∀(z:List dS)(y:List (Nat×Pos)),mJ z=some y->y.length=z.length|[],y,h=>by exact J (ag h).symm rfl|.a i p::z,y,h=>by refine cb h λl q j=>?_;refine J j.symm ?_;simp [RF z l q]|.b ..::z,y,h=>C h|.c ..::z,y,h=>C h
theorem Fh{w}{j}:∀(z:List dS)(y:List (Nat×Pos)),mJ z=some y->sh r w o j z=true->∀t∈y,t.1<j.length/\eE o (bK j t.1)=true
|[],y,h,_=>by exact J (ag h).symm (λt q=>by cases q)|.a i p::z,y,h,d=>by
 refine cb h λl u c=>?_;refine J c.symm (ch d λg f=>?_);refine ch g λg m=>?_;intro t q;refine dF q ?_ λq=>?_;. exact⟨bt g,m⟩
 . exact Fh z l u f t q|.b ..::z,y,h,_=>C h|.c ..::z,y,h,_=>C h
theorem Fi:∀(w:List dS)(q:List (Nat×Pos)),mJ w=some q->(q.map (λO=>O.1)).Nodup->∀g o d z y,lD G Q w g o d=some (z,y)->g.length=q.length->y=d/\z.length=o.length/\∀j u,z[j]?=some (some u)->(∃(i:Nat)(t:Nat×Pos),q[i]?=some t/\t.1=j/\g[i]?=some u)\/(j∉q.map (λO=>O.1)/\o[j]?=some (some u))
|[],q,h,_,g,o,d,z,y,e,_=>by refine J (ag h).symm ?_;(refine ae (ey (ag e)) λZ Y=>?_;refine J Z (J Y ?_));exact⟨rfl,rfl,λj u m=>.inr ⟨by simp,m⟩⟩|.a i p::w,q,h,f,g,o,d,z,y,e,a=>by refine cb h λl v U=>?_;subst U;replace f:=dU▸f;replace f:=(propext hX)▸f;induction g using List.casesOn with|nil=>simp at a|cons x g=>
 have e:(if i<o.length then some (o.set i (some x),d)else none).bind (λr=>lD G Q w g r.1 r.2)=some (z,y):=e;split at e
 . rename_i W;refine bk (Fi w l v f.2 g _ d z y e (by simpa using a)) λD F M=>?_;refine⟨D,by exact F.trans fZ,λj u m=>?_⟩;refine(M j u m).elim (λb=>?_) λb=>?_;. refine bP b λk t n c P=>?_;exact .inl (ax (k+1) t ⟨by simpa using n,c,by simpa using P⟩)
   . refine ae b λn c=>?_;by_cases s:j=i;. subst s;replace c:=(kr W)▸c;cases c;exact .inl (ax 0 (j,p) ⟨rfl,rfl,rfl⟩)
     . exact .inr ⟨by simp only [List.map_cons,List.mem_cons,not_or];exact⟨s,n⟩,((lg (fv s))▸c)⟩
 . exact C e
|.b ..::w,q,h,_,_,_,_,_,_,_,_=>C h|.c ..::w,q,h,_,_,_,_,_,_,_,_=>C h
theorem QN(y:z.length≠2)(q:z.length≠3):swappedStores [.Tuple z u g] (.Tuple w o d) j=pure none:=by unfold swappedStores;dsimp only;rw [if_pos];simp [y,q]
theorem Rz y q:∀z,(ed y q z).any yt=false:=by intro j;induction j with|nil=>exact rfl|cons e z u=>refine List.any_cons.trans (J (u) ?_);induction e using aV.casesOn<;>rfl
theorem Cj{z:aV->Prop}(y:∀a b c d e f g h i j k,z (.d a b c d e f g h i j k))(q:∀e,qT e=false->z e)e:z e:=by induction e using aV.casesOn<;>first|exact q _ rfl|exact y ..
theorem I1{q}{z:aV->Prop}(j:∀u k p,z (.m u k p))(g:∀e,(∀y w o,swappedStores [gM d q (.b w o)] (co d q e) y=pure none)->z e)e:z e:=by induction e using aV.casesOn<;>first|exact j ..|exact g _ λO O O=>rfl
theorem QL{z}e:swappedStores [gM y z (.a i p)] (co y z e) q=pure none:=by induction e using aV.casesOn<;>rfl
theorem QK{z}e:swappedStores [gM y z (.c a i p)] (co y z e) q=pure none:=by induction e using aV.casesOn<;>rfl
section
variable{n:Nat}
variable(l:fm Q d G r q c)(u:∃o,Q.d.get? sysModules=some o)(f:n<=L)(m:∀k,k<n->hE Q z k (c k))(j:Scope)(y:List Str)(g:y.Nodup)
include l u f m g
theorem Em(s:∀t∈w,lI d n j y t=true->gy Q L j y (gM d y t) (λv b e=>fn G z t v b e))(h:sh d n j y w=true):jS Q L j y (lx d y w) (λx b e=>lD G z w x b e):=by induction w with|nil=>exact jS.G|cons t w a=>refine ch h λZ Y=>?_;exact jS.F (λi p=>Fd d y t i p) (s t (.head _) Z) (a (λt k=>s t (.tail _ k)) Y)
theorem xh t:lI d n j y t=true->gy Q L j y (gM d y t) (λv w b=>fn G z t v w b):=by refine dS.rec (motive_1:=λt=>lI d n j y t=true->gy Q L j y (gM d y t) (λv w b=>fn G z t v w b)) (motive_2:=λe=>∀t∈e,lI d n j y t=true->gy Q L j y (gM d y t) (λv w b=>fn G z t v w b)) (λi p h=>gy.K g (nH (bt (aE h).1)) (aE h).2) (λe p H h=>gy.F (vO d y e).symm (Em l u f m j y g H h)) (λa i p h=>gy.G (io l u f m a j y (aE h).1).1 (io l u f m i j y (aE h).2).1) (λO h=>absurd h fY) (λt e s H x k=>by cases k with|head=>exact s|tail _ k=>exact H _ k) t
theorem PM w(h:sh d n j y w=true):jS Q L j y (lx d y w) (λp v b=>lD G z w p v b):=Em l u f m j y g (λt O=>xh l u f m j y g t) h
def xU(Q:bW)(L n:Nat)(d:fK)(G:ds)(z:dd)(j:Scope)(y:List Str)(t:dS)(p:Pos)(e:aV):Prop:=en d n j y e=true->xu d y j t e=true->ck Q L j y (.Assign [gM d y t] (co d y e) p) (λw b=>((aT G z e w).1 b).bind λv=>(fn G z t v.1 w v.2).map λi=>(.a,i))
theorem PL t e p(h1:lI d n j y t=true)(b:en d n j y e=true)(v:xu d y j t e=true):ck Q L j y (.Assign [gM d y t] (co d y e) p) (λρ σ=>((aT G z e ρ).1 σ).bind λa0=>(fn G z t a0.1 ρ a0.2).map λa1=>(.a,a1)):=by have Z:∀{e t},en d n j y e=true->lI d n j y t=true->qT e=false->(∀w,swappedStores [gM d y t] (co d y e) w=pure none)->ck Q L j y (.Assign [gM d y t] (co d y e) p) (λρ σ=>((aT G z e ρ).1 σ).bind λa0=>(fn G z t a0.1 ρ a0.2).map λa1=>(.a,a1)):=λ{e t}b h1 N M=>ck.F (λw=>Fe d y _ _ e N w) M (λw=>Fd d y t w []) (io l u f m e j y b).1 (xh l u f m j y g t h1);induction t using dS.casesOn with|c a i S=>exact Z b h1 ((mb _).mp v) λw=>QK e|a i pi=>refine Cj (z:=xU Q L n d G z j y _ p) (λK P x X B it A H a2 T pc b v=>?_) (λe U b O=>Z b h1 U λw=>QL e) e b v;refine ch v λq1 C=>?_;refine ch b λc0 h=>?_;refine ch h λF h=>?_;refine ch h λE k4=>?_;refine hQ (AQ c0) λc1 c2 c3 c4 c5=>?_;have W:=aX.F (b1:=A) (p:=H) (a:=.Name x X) (λO O=>rfl) l (aE F).1 (mv (λe O=>io l u f m e) (DD (aE F).1) (aE F).2) (λe U=>by subst U;exact wO (λe O=>io l u f m e) (aE F).2);exact ck.v g (nH (bt (aE h1).1)) (aE h1).2 q1 ((mb _).mp C) c1 c2 c3 c4 c5 W.2 W.1 (Cv (λe O=>io l u f m e) (bt (aE E).1) (aE E).2) (io l u f m P T [x] k4).1|b s R=>
refine I1 (d:=d) (q:=y) (z:=xU Q L n d G z j y _ p) (λV k' S b v=>?_) (λe=>Cj (z:=λe=>(∀w s R,swappedStores [gM d y (.b s R)] (co d y e) w=pure none)->xU Q L n d G z j y _ p e) (λO O O O O O O O O O O O O v=>by exact am v) (λe U hs b O=>Z b h1 U λw=>hs w s R) e) e b v;have v:(match mJ s with|some D=>rD (D.map (λO=>O.1))&&((ed d y V).all (foldedForSure 8)||!((ed d y V).all (constantsAlone 8)))|none=>decide (s.length≠2)&&decide (s.length≠3))=true:=v;refine fC (o:=mJ s) (λY=>?_) λD Y=>?_;. rw [Y]at v;exact Z b h1 rfl λw=>QN (by exact J (vO _ _ _) (bt (aE v).1)) (by exact J (vO _ _ _) (bt (aE v).2))
. rw [Y]at v;have I:=OE (aE v).1;have C:=(aE v).2;exact ck.x (Fb d y s D Y) (vO d y s).symm g (Fh s D Y h1) I (Rz d y V) (by rw [nq,mb]at C;exact C) (io l u f m _ j y b).1 (PM l u f m j y g s h1) (Fi s D Y I)
theorem Qv{t}{v}{a}{b}{w}(h:pL d n j y (.b a2 t v a a0 a1 b p)=true)(a3:kO d n j y b=true->iv Q L j y (ip d y b) (λρ σ=>aI G z w b ρ σ)):ck Q L j y (pZ d y (.b a2 t v a a0 a1 b p)) (λρ σ=>az G z w (.b a2 t v a a0 a1 b p) ρ σ):=by refine ch h λZ h=>?_;refine ch Z λZ U=>?_;refine ch h λY J=>?_;refine ch Y λY s=>?_;have W:=mv (λe O=>io l u f m e) (bt Y) s;have D:=xh l u f m j y g t Z;induction t using dS.casesOn with|a i C=>have x:=aX.F (b1:=a0) (p:=a1) (a:=.Name (bK y i) C) (λO O=>rfl) l J W (λe F=>by subst F;exact wO (λe O=>io l u f m e) s);exact ck.u x.2 x.1 D (a3 U)|b M P=>refine ch J λT R=>?_;obtain rfl:v=3:=bt T;exact ck.u (λO O=>rfl) (gz.L (t:=lx d y M) (a4:=0) (a5:=P) l R W) D (a3 U)|c=>exact am J
theorem rR{w}{p}(b:∀s∈p,pL d n j y s=true->ck Q L j y (pZ d y s) (λt v=>az G z w s t v))(h:kO d n j y p=true):iv Q L j y (ip d y p) (λt v=>aI G z w p t v):=by induction p with|nil=>exact iv.v|cons s p e=>refine ch h λi x=>?_;exact iv.u (b s (.head _) i) (e (λs k=>b s (.tail _ k)) x)
theorem PN w s:pL d n j y s=true->ck Q L j y (pZ d y s) (λρ σ=>az G z w s ρ σ):=by
 refine aY.rec (motive_1:=λs=>pL d n j y s=true->ck Q L j y (pZ d y s) (λρ σ=>az G z w s ρ σ)) (motive_2:=λW=>∀s∈W,pL d n j y s=true->ck Q L j y (pZ d y s) (λρ σ=>az G z w s ρ σ)) (λt e p h=>PL l u f m j y g t e p (aE h).1 (aE (aE h).2).1 (aE (aE h).2).2) (λe p h=>ck.K (λU=>Fe d y _ _ e (by simpa using(aE h).1) U) (io l u f m e j y (aE h).2).1) (λi a b p P Z h=>ck.O (io l u f m i j y (aE h).1).2 (rR l u f m j y g P (aE (aE h).2).1) (rR l u f m j y g Z (aE (aE h).2).2)) (λA t D it pi pj b p Z h=>Qv l u f m j y g h (rR l u f m j y g Z)) (λi b p Z h=>ck.L (io l u f m i j y (aE h).1).2 (rR l u f m j y g Z (aE h).2)) (λC p h=>?_) (λp h=>ck.G) (λv x a0 kt pt T R V K kC B hS E hU I N h=>?_) (λv x i kc jM pc T R V K kA B E I N h=>?_) (λO h=>absurd h fY) (λs W S H s' k=>?_) s;. induction C using List.casesOn with|nil=>exact ck.y|cons e C=>exact ck.Q (io l u f m e j y (aE (aE h).2).1).1
 . refine ch h λY h=>?_;refine ch h λJ h=>?_;refine ch h λF M=>?_;exact ck.P g (nH (bt (aE Y).1)) (nH (bt (aE J).1)) (aE Y).2 (aE J).2 (aE F).1 (aE F).2 (bt (aE M).1) (λi X=>bt (cs.mp (aE M).2 i X))
 . refine ch h λY h=>?_;refine ch h λJ h=>?_;exact ck.R g (nH (bt (aE Y).1)) (nH (bt (aE J).1)) (aE Y).2 (aE J).2 (aE h).1 (aE h).2
 . cases k with|head=>exact S|tail _ k=>exact H _ k
theorem PO w p(h:kO d n j y p=true):iv Q L j y (ip d y p) (λt v=>aI G z w p t v):=rR l u f m j y g (λs O=>PN l u f m j y g w s) h
end
inductive F_(w:bW)(u:fK)(c:Nat)(f:bn)(m:Addr):Prop|a(q:Scope)(o:Obj)(z:Arguments)(d g j:Value)(_:w.d.get? m=some o)(_:o.data=.func (docDef f.d z (ip u f.b f.c) q d g j))(_:w.d.CodeRec g f.d)(_:∀y:List Value,y.length=f.a->bindArgs (docDef f.d z (ip u f.b f.c) q d g j) ⟨y,[]⟩=pure ((f.b.take f.a).zip y))(_:kO u c q f.b f.c=true)(_:∀x∈f.b.take f.a,q.names.lookup x=some .local)(_:q.isCoroutine=false)(_:q.isGenerator=false)(_:q.kind=.function)(_:∀x∈q.names,x.2≠.cell)
structure qj(z:bW)(y:fK)(q:Nat)(f:bn)(a:Addr):Prop where
b:F_ z y q f a
d:f.b.Nodup
c:f.a<=f.b.length
theorem Mu:∀{z:List Str}{q:List Value}{i:Nat}{x:Str}{v:Value},z.Nodup->z[i]?=some x->q[i]?=some v->(z.zip q).reverse.lookup x=some v:=by
 intro z q i x v r f m;have g:(x,v)∈z.zip q:=cq (i:=i) (sI.mpr ⟨f,m⟩);have k:∀p∈z.zip q,p.1=x->p.2=v:=by intro p w b;refine av (qw w) λj e=>?_;refine ae (sI.mp e) λt n=>?_;rw [b]at t;obtain⟨Q,s⟩:=bo.mp t;obtain⟨U,a⟩:=bo.mp f;obtain rfl:j=i:=(oG r).mp (s.trans a.symm);exact(ag (m.symm.trans n)).symm
 have o:=np.mpr g;have d:∀p∈(z.zip q).reverse,p.1=x->p.2=v:=λp w=>k p (np.mp w);generalize(z.zip q).reverse=l at o d;induction l with|nil=>cases o|cons p l Z=>
obtain⟨y,u⟩:=p;refine J List.lookup_cons ?_;by_cases c:x=y;. clear o;subst c;simp only [beq_self_eq_true];exact J (aN (d (x,u) (.head _) rfl)) rfl
. have Y:(x==y)=false:=by simpa using c
  refine J Y (Z ?_ λp w=>d p (.tail _ w));refine(kn.mp o).elim (λh=>?_) λh=>?_;. exact absurd (aJ Prod.fst h) c
  . exact h
section
variable{z:Nat}
theorem Ag(b0:fm d b1 G b6 b7 b2)(a1:∃o,d.d.get? sysModules=some o)(a2:d.d.NoLimit)(hC:∀k,k<z->hE d Φ k (b2 k)){w}(a3:qj d b1 z f a){b3}{O}{v}{Q}(a5:d.c a0 φ σ s.heap)(r:d.g a0 φ O a4)(a6:O.length=f.a)(e:nu G Φ w f O σ=some (v,a7))(l:oS a8 (z+1))(b4:0<s.toks+f.a)(k:d.f d.e a0 φ σ s v a7 Q):wpAny (model d.a d.b) a8 (PySem.call (.ref a) a4 []) Q b3 s:=by
 obtain⟨K,o,B,pm,cd,b5,ho,n,I,Z,N,W,S,C,hk,Y⟩:=a3.b;have c:=aF.r a5;have F:a4.length=f.a:=by refine J r.K (J a6 ?_);rfl
 refine MH e λfl X m e1 e2=>?_;have A:(f.b.take f.a).length=f.a:=by exact J sM (lk a3.c)
 refine wpAny_call (call_plain_ret (binds:=(f.b.take f.a).zip a4) ?_ (c _ _ ho) n (a2.keeps c) (I.keeps c) (Z a4 F) (λx hx=>W x.1 (List.of_mem_zip hx).1) (λM H=>?_) S C hk Y);. have:=l.b;have:recursionLimit=1000:=rfl;lia
 generalize hL:s.heap.objs.size=L at H⊢;have zJ:s.heap.get? L=none:=by exact J (aN hL) (gc _)
 refine ae (Mp.aF.t a5 H.keep) λP T=>?_;have p:gi a0 φ L:=⟨Mp.aF.m a5 zJ,Mp.aF.p a5 zJ⟩;have R:(f.b.take f.a).Nodup:=a3.d.sublist (List.take_sublist _ _);have KX:cJ d z K f.b (a8.deeper (envOf f.d K L a cd)) (envOf f.d K L a cd) L a0 φ σ (O.map some++List.replicate (f.b.length-f.a) none) {s with heap:=M,toks:=s.toks+((f.b.take f.a).zip a4).length}:=by
  refine⟨⟨rfl,hk,rfl,rfl,rfl⟩,⟨l.a,?_,?_⟩,P,⟨by simp [a6];exact m_ a3.c,⟨_,H.ns,λi x u ex U=>?_⟩,p.2,p.1⟩,(by(refine J List.length_zip ?_);refine J A (J F ?_);(refine J (Nat.min_self _) ?_);exact b4)⟩;. exact ac (de (qv _ _)) l.b
  . refine(?_:a8.units+3+10*z<=9000);have:=l.c;lia
  . have hi:i<O.length:=by
     by_cases h:i<O.length;. exact h
     . rw [iF (by simpa using h)]at U;obtain⟨_,hq⟩:=bo.mp U;simp at hq
    rw [iI (by simpa using hi),hw]at U;refine D (fI.mp U) λu' U hu=>?_;cases hu;refine D (r.P U) λrv r1 r2=>?_;refine⟨rv,Mu R ?_ r1,r2⟩;refine J (sN (bl hi (de a6))) ?_;exact ex
 refine(PO b0 a1 (aH z) hC K f.b a3.d w f.c N) _ _ _ a0 φ σ _ L _ fl X m _ e1 KX λrf E q g j b9 t V a9 y=>?_;have xx:cp a0 φ σ s.heap E q m g:=((T.p (L:=[L]) λb l=>by exact J (bF.mp l) p.2).g V).s λb l=>by exact J (bF.mp l) zJ
 have oV:s.toks<=j:=ac (bw _ _) b9;clear e;(refine ae (ey e2) λz1 z2=>?_;subst z1;subst z2);clear e1;induction fl with|a=>have y:rf=.next:=y;clear y;refine J y ?_;exact k .none E q g j oV t xx nA|c=>have y:rf=.cont:=y;clear y;refine J y ?_;exact k .none E q g j oV t xx nA|b v=>refine D y λrv z3 y=>?_;exact J z3 (k rv E q g j oV t xx y)
end
section
variable{y:Addr}
mutual theorem oY:∀{v:V}{o:Value},dB n v=true->bs j w y c f v o->bs j w y c (f.take n) v o|.f _,_,_,r=>r|.d d,o,h,r=>hg r λa u m e g z=>ae z λq l=>(dK a u m ⟨e,g,n' h q,l⟩)|.g d,o,h,r=>hg r λa u m e g z=>ae z λq l=>(dK a u m ⟨e,g,n' h q,l⟩)|.e _,_,_,r=>r|.k U,o,h,r=>ja r λx t b m u z=>hQ z λe i s q l=>(pe x t b m u ⟨e,i,s,n' h q,l⟩)|.c k,o,h,r=>D r λa e g=>⟨a,e,(sN (bt h)).trans g⟩|.i,_,_,r=>r.elim theorem n':∀{d:List V}{u:List Value},c_ n d=true->be j w y c f d u->be j w y c (f.take n) d u|[],_,_,r=>r|x::d,u,h,r=>bP r λv p e Z Y=>ch h λQ J=>(ax v p ⟨e,oY Q Z,n' J Y⟩)end
theorem Hg:∀{z:af}{i:Nat}{c:V},eC n z=true->z[i]?=some c->dB n c=true:=by intro q;induction q with|nil=>intro i c O e;exact C e|cons d z j=>intro i c h e;refine ch h λu g=>?_;induction i using Nat.casesOn with|zero=>replace e:=ag e;subst e;exact u|succ i=>exact j g (by simpa using e)
end
section
variable{w:bW}{u:aw}{z:List Addr}{n:Nat}
def jz(y q:aw)(z:List Addr)(n:Nat)(h:Heap):Prop:=y.a q/\∀a o,q a=some o->y a=some o\/(a∈z.drop n/\h.get? a=some o)
theorem jz.g:jz y y z n h:=⟨aw.a.i _,λO O e=>.inl e⟩
theorem jz.f(j:jz c u z n h)(m:c a=none)(t:a∈z.drop n)(r:h.get? a=some o):jz c (u.c a o) z n h/\u.a (u.c a o):=by
 have y:u.a (u.c a o):=λb d e=>by
  by_cases q:b=a
  . clear t;subst q;rcases j.2 b d e with p|p;. exact C (m.symm.trans p)
    . rw [r]at p;refine ae p λO p=>?_;clear e;exact J (ag p) aw.d
  . exact(aw.b q).trans e
 refine⟨⟨j.1.j y,λb d e=>?_⟩,y⟩;by_cases q:b=a;. clear y m;subst q;replace e:=aw.d.symm.trans e;exact J (ag e).symm (.inr ⟨t,r⟩)
 . replace e:=(aw.b q).symm.trans e;exact j.2 b d e
mutual theorem xw(Q:w.c i z s h):∀{v f:V}{p:Value}{u:aw},cP n s v=some f->w.e i z v p->jz i u z n h->∃j,jz i j z n h/\u.a j/\w.e j (z.take n) f p
|.c k,f,p,u,e,r,A=>by
 by_cases O:k<n;. cases(if_pos O).symm.trans e;exact⟨u,A,aw.a.i _,(oY (n:=n) (show dB n (.c k)=true from em O) r).F A.1 dt⟩
 . have e:=(if_neg O).symm.trans e;refine D r λa X P=>?_;refine J X ?_;have H:k<s.length:=by exact J (aN Q.d) ((bo.mp P).1)
   have T:s[k]?=some s[k]:=cH H;have R:=Q.k k a _ P T;rw [qS T]at e;have S:a∈z.drop n:=by refine cq (i:=k-n) (J ne ?_);exact J (m_ (g' O)) P
   clear T;generalize s[k]=c at e R;induction c using V.casesOn with|d U=>refine eI e λG e=>?_;refine J (ag e).symm (kT R λK b m Z Y B=>?_);refine ae (A.f K S Z) λE t=>?_;exact⟨_,E,t,a,b,m,rfl,aw.d,(n' G Y).L (A.1.j t) dt,B⟩|e d=>refine J (ag e).symm (qg R λK Z o I Y z5=>?_);refine bk z5 λB h5 h6=>?_;refine ae (A.f K S Y) λE t=>?_;exact⟨_,E,t,a,o,I,rfl,aw.d,B,h5,Z,h6⟩|_=>exact C e
|.g U,f,p,u,e,r,A=>by refine cb e λW L z6=>?_;refine J z6.symm (bB r λa b m z7 z8=>?_);subst z7;refine bk z8 λg q l=>?_;refine gn (ET Q L q A) λj F Z M=>?_;exact⟨j,F,Z,a,b,m,rfl,F.1 _ _ g,M,by refine J (aN M.K) (J q.K ?_);exact l⟩|.f x,f,p,u,e,r,A=>by exact J (ag e).symm ⟨u,A,aw.a.i _,(oY (n:=n) (v:=.f x) rfl r).F A.1 dt⟩|.d x,f,p,u,e,r,A=>by refine eI e λG e=>?_;exact J (ag e).symm ⟨u,A,aw.a.i _,(oY (n:=n) (v:=.d x) G r).F A.1 dt⟩|.e x,f,p,u,e,r,A=>by exact J (ag e).symm ⟨u,A,aw.a.i _,(oY (n:=n) (v:=.e x) rfl r).F A.1 dt⟩|.k x,f,p,u,e,r,A=>by refine eI e λG e=>?_;exact J (ag e).symm ⟨u,A,aw.a.i _,(oY (n:=n) (v:=.k x) G r).F A.1 dt⟩|.i,f,p,u,e,r,A=>r.elim theorem ET(Q:w.c i z s h):∀{U W:List V}{b:List Value}{u:aw},pN n s U=some W->w.g i z U b->jz i u z n h->∃j,jz i j z n h/\u.a j/\w.g j (z.take n) W b|[],W,b,u,e,r,A=>by exact J (ag e).symm ⟨u,A,aw.a.i _,r⟩|x::U,W,b,u,e,r,A=>by refine aP e λy L e=>?_;refine cb e λa0 es z9=>?_;refine J z9.symm (bg r λv N co cC=>?_);subst co;refine ae cC λq1 M=>?_;refine gn (xw Q L q1 A) λj F Z r2=>?_;refine gn (ET Q es M F) λju JZ Y r3=>?_;exact⟨ju,JZ,Z.j Y,v,N,rfl,r2.F Y dt,r3⟩end
theorem aF.R(y:w.c a0 z σ h)(hc:eC n (σ.take n)=true)(f:jz a0 u z n h):w.c u (z.take n) (σ.take n) h:=by
 refine⟨λa o g=>?_,λa o g=>f.1 _ _ (y.j a o g),by simp [y.d],y.l.sublist (List.take_sublist _ _),λa N=>y.e a (sO N),λB a c s Y=>?_⟩
 . refine(f.2 a o g).elim (λq=>?_) λq=>?_;. exact y.b a o q
   . exact q.2
 . have A:B<n:=by have:=(bo.mp s).1;rw [sM]at this;exact bl this (sB n (List.length z))
   have H:=Hg hc Y;rw [sN A]at s Y;have J:=y.k B a c s Y;have E:a0 a=none->u a=none:=λhF=>by induction g:u a with|none=>rfl|some o=>
refine(f.2 a o g).elim (λq=>?_) λq=>?_;. exact C (hF.symm.trans q)
. refine av (qw q.1) λa2 I=>?_;rw [ne]at I;have:=xo y.l s I;lia
   clear Y;induction c using V.casesOn with|d xs=>refine kT J λU vs a1 D F M=>?_;exact⟨E U,vs,a1,D,(n' H F).L f.1 dt,M⟩|e a3=>refine qg J λU D o T F M=>?_;exact⟨E U,D,o,T,F,M⟩|i=>trivial|_=>exact J.elim
end
section
variable{z:Nat}
theorem EJ(a3:fm a1 a8 G b4 b5 a9)(L:∃o,a1.d.get? sysModules=some o)(a0:a1.d.NoLimit)(hC:∀k,k<z->hE a1 Φ k (a9 k)){w}(a4:qj a1 a8 z f a){b0}{a7}{v}{Q}(d:a1.c a2 φ σ s.heap)(r:a1.g a2 φ a7 b1)(e:nC G Φ w f a7 σ=some (v,a5))(hb:oS b2 (z+1))(a6:0<s.toks+f.a)(k:a1.f a1.e a2 φ σ s v a5 Q):wpAny (model a1.a a1.b) b2 (PySem.call (.ref a) b1 []) Q b0 s:=by
 unfold nC at e;split at e
 . rename_i K;split at e
   . split at e
     . rename_i A;refine eo e λH B F e=>?_;refine cb e λv2 E e=>?_;replace k:=ij e k;refine Ag a3 L a0 hC a4 (⟨d.b,d.j,rfl,md,(λO h=>by cases h),(λi a c F O=>C F)⟩) (n' (n:=0) A r) K F hb a6 λI T U Z m l u y W=>?_;refine gn (xw u E W jz.g) λP M O Y=>?_;have g:=aF.R (n:=0) u rfl M;have n:∀b o,s.heap.get? b=some o->Z.get? b=some o:=λb o x=>y.k b o x λi c F O=>C F;have D:∀b o,P b=some o->a2 b=some o\/s.heap.get? b=none:=λb o x=>by
        rcases M.2 b o x with p|p
        . refine(y.m b o p).elim (λq=>?_) λzo=>zo.elim (λq=>?_) λq=>?_;. exact .inl q
          . exact .inr q
          . cases q
        . refine av (qw p.1) λj V=>?_;exact .inr (y.l j b (by simpa using V) (eT _))
       have R:a2.a P:=y.d.j M.1;refine k I P φ Z m l ⟨g.b,g.j,d.d,d.l,λb hb=>(d.e b hb).imp λo x=>n b o x,λi b c X i2=>?_⟩ ⟨R,dt,d.d,d.e,λi b e N=>absurd (bo.mp e).1 (lf.mpr N),λb o x O=>n b o x,λO e=>e,λb o x=>(D b o x).imp_right .inl⟩ (Y.F (aw.a.i _) (List.nil_prefix));refine(d.k i b c X i2).z R dt (λhF=>?_) (λo x=>n b o x);induction x:P b with|none=>rfl|some o=>
    refine(D b o x).elim (λp=>?_) λp=>?_;. exact C (hF.symm.trans p)
    . refine av (d.e b (cq X)) λo' b3=>?_;exact C (p.symm.trans b3)
     . exact C e
   . refine eo e λH B F e=>?_;dsimp only at e;split at e
     . rename_i hc;refine cb e λv2 E e=>?_;replace k:=ij e k;refine Ag a3 L a0 hC a4 d r K F hb a6 λI T U Z m l u y W=>?_;refine gn (xw u E W jz.g) λP M O Y=>?_;have g:=aF.R (n:=σ.length) u hc M;have S:U.take σ.length=φ:=by refine av (y.b) λt d6=>?_;refine J d6.symm (J (aN d.d) ?_);simp
       rw [S]at g Y;refine k I P φ Z m l g ⟨y.d.j M.1,dt,d.d,d.e,λi b e N=>absurd (bo.mp e).1 (lf.mpr N),y.k,λi e=>?_,λb o x=>?_⟩ Y;. refine(sN (bo.mp e).1).trans ?_;exact(y.n i e)
       . refine(M.2 b o x).elim (λp=>?_) λp=>?_;. exact y.m b o p
         . refine av (qw p.1) λj V=>?_;rw [ne]at V;exact .inr (.inl (y.l _ b V (by exact J d.d (bw (List.length σ) j))))
     . exact C e
   . exact Ag a3 L a0 hC a4 d r K e hb a6 k
 . exact C e
theorem HR(L:fm j l G a2 a3 c)(u:∃o,j.d.get? sysModules=some o)(g:j.d.NoLimit)(hC:∀k,k<z->hE j Φ k (c k)){w}(n:qj j l z f (c z))(a0:∀m p,a1 z m p=nC G Φ w f m p):hE j a1 z (c z):=by intro A E s Z t Q Y h;obtain⟨U,o,y,W,D,b,C,q,_,_,_,_,_,_,_,_⟩:=n.b;refine callWith_function (o:=o) (fd:=docDef f.d y (ip l f.b f.c) U W D b) (fx h (λx a d=>?_) λO O x=>x);refine vQ d λi F V p m M=>?_;refine gN M λv P e S r T=>?_;refine ae T λR k=>?_;refine⟨⟨aF.r S _ _ C,q⟩,?_⟩;refine J i ?_;(refine J (mY _) ?_);rw [a0]at e;exact EJ L u g hC n S r e Y (Nat.add_pos_left R _) k
end
structure oT(z:Frag)(y q:Addr):Prop where
d:∀f,f<4->plainGet z y (cj f)=true
b:hasDictIn z y=true
a:∀f,f<4->findIn z (.ref y) (cj f)=some none
h:makesIn z y=true
e:findIn z (.ref y) "__init__"=some (some (.ref q))c:typeIn z (.ref q)=some (.type "function")j:findIn z (.ref y) "__setattr__"=some (some (.builtin "object.__setattr__"))i:plainOver z y=true
g:keepIn z (.ref y)=true
noncomputable def pn(f:Str)(z y q j:Pos):Stmt:=.Assign [.Attribute (.Name "self" z) f y] (.Name f q) j
section
variable{q:Value->Shared->Prop}{y:Frag}{z:Addr}
theorem HV(u:oT y z i)(m:y.In j){n}{v}{Q}(p:∀a o,j.get? a=some o->s.heap.get? a=some o)(t:s.heap.get? x=some (instObj z r))(g:s.heap.get? r=some (rh k n))(b:getL (cj f) k=some (some v))(d:f<4)(e:handedIn v=true)(h:Q v {s with toks:=s.toks+1}):wpAny (model c w) l (getAttr (.ref x) (cj f) true) Q q s:=by exact get_value (m.keeps p) (⟨t,rfl,rfl,g⟩) (plainGet_of (u.d f d)).1 (findObj_own u.b (u.a f d) rfl (by exact(lookIn_dict _ _ _).trans b)) e h
theorem vi(i:oT y z a4)(a2:y.In j)(l:f<4)(g:hF o sc L)(a3:sc.names.lookup ("self":Str)=some .local)(d:sc.names.lookup (cj f)=some .local){m}{n}{v}{p1 p2 p3 p4}{Q}(a1:Fr j L s.heap m)(a:News j L s.heap [(x,instObj z r),(r,dictOf k n)])(G:x≠r)(O:m ("self":Str)=some (.ref x))(c:m (cj f)=some v)(t:(getL (cj f) k).isSome=true)(u:(putL (cj f) (PyData.keyHash w.params (cj f)) (.str (cj f) (s.toks+1)) v k).length<=1000)(h:∀a0,Fr j L a0 m->News j L a0 [(x,instObj z r),(r,dictOf (putL (cj f) (PyData.keyHash w.params (cj f)) (.str (cj f) (s.toks+1)) v k) (putN (cj f) k n))]->Q .next {s with heap:=a0,toks:=s.toks+2}):wpAny (model b w) a5 (exec (pn (cj f) p1 p2 p3 p4) o) Q q s:=by
 have e:(cj f==("__debug__"))=false:=by clear h u t c d l;rcases f with _|_|_|_|f<;>first|rfl|omega
 refine plainObj_wpAny_Assign_Attribute ?_ (by clear e h u t c d l;rcases f with _|_|_|_|f<;>first|rfl|omega);have Z:=a1.ns;refine lZ (oF (by exact J g.a g.c) (by refine(?_:o.scope.names.lookup _=_);exact J g.a d) (by exact J g.b Z) c ?_) e;refine lZ (oF (by exact J g.a g.c) (by refine(?_:o.scope.names.lookup _=_);exact J g.a a3) (by exact J g.b Z) O ?_) rfl;have I:InstAt s.heap x (instObj z r) z (some (dictOf k n)):=⟨(a _ (.head _)).1,rfl,rfl,(a (r,dictOf k n) (by simp)).1⟩;have Y:takerIn y z (cj f)=some none:=by unfold takerIn;exact J (i.a f l) rfl
 exact set_dict (prog:=b) (w:=w) a1 a2 a I rfl i.j i.i Y i.b t rfl (.tail G (.head (λp U=>nomatch U))) u h
end
section
variable{z:bW}
theorem aF.X(u:z.c s φ σ h)(f:∀a o,h.get? a=some o->a0.get? a=some o)(g:s.a n)(a1:∀a o,n a=some o->s a=some o\/(h.get? a=none/\a0.get? a=some o)):z.c n φ σ a0/\cp s φ σ h n φ σ a0:=by
 refine⟨⟨λa o y=>?_,λa o y=>g _ _ (u.j a o y),u.d,u.l,λa J=>(u.e a J).imp λw y=>f a w y,λi a c Y U=>?_⟩,⟨g,dt,u.d,u.e,λi a y D=>absurd (bo.mp y).1 (lf.mpr D),λa w y F=>f a w y,λF y=>y,λa w y=>?_⟩⟩
 . refine(a1 a o y).elim (λq=>?_) λq=>?_;. exact f _ _ (u.b _ _ q)
   . exact q.2
 . refine(u.k i a c Y U).z g dt (λM=>?_) (f a);induction y:n a with|none=>rfl|some o=>
refine(a1 a o y).elim (λq=>?_) λq=>?_;. exact C (M.symm.trans q)
. refine av (u.e a (cq Y)) λV T=>?_;rw [T]at q;exact C q.1.symm
 . exact(a1 a w y).imp_right λq=>.inl q.1
end
inductive ta(y:Heap)(f:Addr):Prop|a(q:Scope)(o:Obj)(z:Arguments)(g u j:Value)(p:Nat->Nat->Pos)(_:y.get? f=some o)(_:o.data=.func (methDef "__init__" "Line.__init__" z ([0,1,2,3].map λi=>pn (cj i) (p i 0) (p i 1) (p i 2) (p i 3)) q g u j))(_:y.CodeRec u "Line.__init__")(_:∀x w b c d:Value,bindArgs (methDef "__init__" "Line.__init__" z ([0,1,2,3].map λi=>pn (cj i) (p i 0) (p i 1) (p i 2) (p i 3)) q g u j) ⟨[x,w,b,c,d],[]⟩=pure [(("self":Str),x),(cj 0,w),(cj 1,b),(cj 2,c),(cj 3,d)])(_:q.names.lookup ("self":Str)=some .local/\∀i,i<4->q.names.lookup (cj i)=some .local)(_:q.isCoroutine=false)(_:q.isGenerator=false)(_:q.kind=.function)(_:∀x∈q.names,x.2≠.cell)
section
variable{j:bW}{w:Frag}
theorem GX(r:j.g p t [a,b,c,d] q):∃x y z u,q=[x,y,z,u]:=by refine bP r λx l g O r=>?_;refine bP r λy l o O r=>?_;refine bP r λz l f O r=>?_;refine bP r λu l m O r=>?_;exact(nO x y z u (by rw [g,o,f,m,show l=[]from r]))
theorem HW(L:oT w j.h a5)(b2:w.In j.d)(b3:ta j.d a5)(a1:j.d.NoLimit){b4}{Q}(a2:j.c a0 φ σ s.heap)(r:j.g a0 φ [a,b,c,d] b5)(hb:oS a6 1)(k:j.f j.e a0 φ σ s (.k [a,b,c,d]) σ Q):wpAny (model j.a j.b) a6 (PySem.call (.ref j.h) b5 []) Q b4 s:=by
 have v:=aF.r a2;have W:=b2.keeps v;obtain⟨sc,o,f,pm,cd,D,p,ho,F,a7,M,⟨u,z⟩,a8,E,hk,P⟩:=b3;refine sf (GX r) λT R V O z1=>?_;subst z1;obtain⟨h,g,dr,t,os⟩:=s;dsimp only at a2 v W;refine wpAny_call (make_core (makes_of W L.h) (looks_findIn W L.e) (λI=>bind_fn W I L.c) (.inl rfl) ?_);have kp:∀b o,h.get? b=some o->((h.push emptyDict).push (instObj j.h h.objs.size)).get? b=some o:=λb o e=>gZ _ (gZ _ e);refine codeAny_call_def (fd:=methDef "__init__" "Line.__init__" f ([0,1,2,3].map λi=>pn (cj i) (p i 0) (p i 1) (p i 2) (p i 3)) sc pm cd D) ?_ (kp _ _ (v _ _ ho)) F ((a1.keeps v).keeps kp) ((a7.keeps v).keeps kp) rfl (.of_eq (M _ _ _ _ _)) P (λx hx=>?_) (λZ a9 l=>?_) a8 E hk
 . have:=hb.b;have K:(a6.under (.builtin "type.__call__" ⟨[.ref j.h,T,R,V,O],[]⟩)).depth=a6.depth+(Code.builtin "type.__call__" ⟨[.ref j.h,T,R,V,O],[]⟩).weight:=rfl;have N:(Code.builtin "type.__call__" ⟨[.ref j.h,T,R,V,O],[]⟩).weight=1:=by kernel_rfl
   have:recursionLimit=1000:=rfl;lia
 . simp only [List.mem_cons,List.not_mem_nil,or_false]at hx;rcases hx with rfl|rfl|rfl|rfl|rfl;. exact u
   . exact z 0 (by decide)
   . exact z 1 (by decide)
   . exact z 2 (by decide)
   . exact z 3 (by decide)
 . have Fw:((h.push emptyDict).push (instObj j.h h.objs.size)).objs.size=h.objs.size+2:=by refine(Heap.size_push _ _).trans (J (Heap.size_push _ _) ?_);rfl
   have f':Fr h (h.objs.size+2) Z (λy=>([(("self":Str),Value.ref (h.objs.size+1)),(cj 0,T),(cj 1,R),(cj 2,V),(cj 3,O)]).reverse.lookup y):=⟨by exact J (aN Fw) a9,(λb o e=>l _ _ (kp _ _ e)),bw _ _⟩;have S:News h (h.objs.size+2) Z [(h.objs.size+1,instObj j.h h.objs.size),(h.objs.size,dictOf [] 0)]:=λq hq=>by
    simp only [List.mem_cons,List.not_mem_nil,or_false]at hq;rcases hq with rfl|rfl;. exact⟨(l _ _ (by heap_get)),by simp,yl (e_ _)⟩
    . exact⟨(l _ _ (by heap_get)),by simp,gc _⟩
   refine J Fw ?_;generalize B:(λy=>([(("self":Str),Value.ref (h.objs.size+1)),(cj 0,T),(cj 1,R),(cj 2,V),(cj 3,O)]).reverse.lookup y)=m at f';have m0:m ("self")=some (.ref (h.objs.size+1)):=by exact J (aN B) rfl
   have m1:m (cj 0)=some T:=by exact J (aN B) rfl
   have m2:m (cj 1)=some R:=by exact J (aN B) rfl
   have m3:m (cj 2)=some V:=by exact J (aN B) rfl
   have m4:m (cj 3)=some O:=by exact J (aN B) rfl
   clear B;have X:hF (callEnv (methDef "__init__" "Line.__init__" f ([0,1,2,3].map λi=>pn (cj i) (p i 0) (p i 1) (p i 2) (p i 3)) sc pm cd D) (h.objs.size+2) a5) sc (h.objs.size+2):=⟨rfl,hk,rfl,rfl,rfl⟩;generalize callEnv (methDef "__init__" "Line.__init__" f ([0,1,2,3].map λi=>pn (cj i) (p i 0) (p i 1) (p i 2) (p i 3)) sc pm cd D) (h.objs.size+2) a5=b6 at X⊢;have Y:h.objs.size+1≠h.objs.size:=by simp
   refine no (vi L W (s:=⟨Z,g,dr,_,os⟩) (by decide) X u (z 0 (by decide)) f' S Y m0 m1 rfl (show _<=1000 from(by decide:(1:Nat)<=1000)) λA J2 Kb=>?_);refine no (vi L W (s:=⟨A,g,dr,_,os⟩) (by decide) X u (z 1 (by decide)) J2 Kb Y m0 m2 rfl (show _<=1000 from(by decide:(2:Nat)<=1000)) λH J3 Kc=>?_);refine no (vi L W (s:=⟨H,g,dr,_,os⟩) (by decide:2<4) X u (z 2 (by decide)) J3 Kc Y m0 m3 rfl (show(_:Nat)<=1000 from(by decide:(3:Nat)<=1000)) λa3 J4 Kd=>?_);refine no (vi L W (s:=⟨a3,g,dr,_,os⟩) (by decide:3<4) X u (z 3 (by decide)) J4 Kd Y m0 m4 rfl (show(_:Nat)<=1000 from(by decide:(4:Nat)<=1000)) λU J5 tI=>?_);refine oH ?_;have a4:=(tI _ (.head _)).1;have vh:=(tI _ (.tail _ (.head _))).1;have nx:=(tI _ (.head _)).2.2;have nd:=(tI _ (.tail _ (.head _))).2.2;dsimp only at a4 vh nx nd;refine⟨rfl,?_⟩;generalize G:putL (cj 3) _ _ O _=es at vh;generalize putN (cj 3) _ _=n at vh;have P8:∀b o,h.get? b=some o->U.get? b=some o:=J5.keep;have b0:a0.a ((a0.c (h.objs.size+1) (instObj j.h h.objs.size)).c h.objs.size (rh es n)):=λa o e=>by
    have K:a≠h.objs.size:=λq=>by subst q;exact C ((Mp.aF.m a2 nd).symm.trans e)
    have N:a≠h.objs.size+1:=λq=>by clear K;subst q;exact C ((Mp.aF.m a2 nx).symm.trans e)
    refine(aw.b K).trans ((aw.b N).trans ?_);exact e
   have b1:∀a o,((a0.c (h.objs.size+1) (instObj j.h h.objs.size)).c h.objs.size (rh es n)) a=some o->a0 a=some o\/(h.get? a=none/\U.get? a=some o):=λa o e=>by
    by_cases K:a=h.objs.size;. subst K;rw [aw.d]at e;exact J (ag e).symm (.inr ⟨nd,vh⟩)
    . rw [aw.b K]at e;by_cases N:a=h.objs.size+1;. clear K;subst N;rw [aw.d]at e;exact J (ag e).symm (.inr ⟨nx,a4⟩)
      . rw [aw.b N]at e;exact .inl e
   refine ae (Mp.aF.X (z:=j) a2 P8 b0 b1) λS' x'=>?_;refine k _ _ φ U _ ?_ S' x' ?_;. simp only [];lia
   . refine(pe (h.objs.size+1) h.objs.size es n [T,R,V,O] ⟨rfl,?_,aw.d,r.L x'.d x'.b,rfl,λi y e=>?_⟩);. exact(aw.b Y).trans aw.d
     . rcases i with _|_|_|_|i;. refine J (ag e).symm (J (aN G) ?_);rfl
       . refine J (ag e).symm (J (aN G) ?_);rfl
       . refine J (ag e).symm (J (aN G) ?_);rfl
       . refine J (ag e).symm (J (aN G) ?_);rfl
       . exact C e
theorem Q5(z:List (Sem Value)):((z.map λt=>(false,t)).any (λO=>O.1)||([]:List (Option Str×Sem Value)).any (λO=>O.1.isNone))=false:=by induction z with|nil=>rfl|cons t l y=>simp
theorem HT(d:oT w j.h m)(c:w.In j.d)(t:ta j.d m)(y:j.d.NoLimit)(b:∀u g,i 0 u g=yA u g):hE j i 0 j.h:=by intro A E s n z Q Z h;refine callWith_of (Q5 z) (λh=>keeps_K d.g h) (fx h (λx f q=>?_) λO O x=>x);refine vQ q λo F M g u Y=>?_;refine gN Y λv U e S r G=>?_;refine ae G λP k=>?_;refine⟨c.keeps (aF.r S),?_⟩;refine J o ?_;(refine J (mY _) ?_);rw [b]at e;induction u using List.casesOn with|nil=>exact C e|cons a l=>refine cb e λp W D=>?_;obtain rfl:=xt W;clear e;obtain⟨rfl,rfl⟩:=ey D;exact HW d c t y S r Z k
end
noncomputable def KU:Scope:={kind:=.function,names:=[((".0":Str),.local),(("each":Str),.local),(("_law_WORD":Str),.globalImplicit),(("at":Str),.free),(("memory":Str),.free)],isGenerator:=false,isCoroutine:=false,more:=[]}
noncomputable def sW:List (Str×NameKind):=[(("memory":Str),.cell),(("at":Str),.cell),(("width":Str),.local),(("sum":Str),.globalImplicit),(("range":Str),.globalImplicit)]
noncomputable def Cy(p:Nat->Pos):Expr:=.BinOp (.Call (.Attribute (.Name "memory" (p 0)) "get" (p 1)) [.BinOp (.BinOp (.Name "at" (p 2)) .Add (.Name "each" (p 3)) (p 4)) .Mod (.Name "_law_WORD" (p 5)) (p 6),.BinOp (.BinOp (.BinOp (.Name "at" (p 7)) .Add (.Name "each" (p 8)) (p 9)) .Mult (.Constant (.int 7) 0 (p 10)) (p 11)) .Mod (.Constant (.int 251) 0 (p 12)) (p 13)] [] (p 14)) .Mult (.BinOp (.Constant (.int 256) 0 (p 15)) .Pow (.Name "each" (p 16)) (p 17)) (p 18)
def qR(p:Nat->Pos):List Stmt:=[.Return (some (.Call (.Name "sum" (p 19)) [.ListComp (Cy p) [⟨.Name "each" (p 20),.Call (.Name "range" (p 21)) [.Name "width" (p 22)] [] (p 23),[],0⟩] KU (p 24)] [] (p 25))) (p 26)]
def pm(d:List (aD×aD))(a:Int)(i:Int):aD:=(bD d (.b ((a+i)%4294967296))).getD (.b ((a+i)*7%251))
theorem Lc(h:(V.f x).l=some b):x=.b b:=by induction x with|b i=>exact aJ aD.b (ag h)|_=>exact C h
noncomputable def RU:aD->Int|.c=>0|.d _=>0|.b i=>i|.a _=>0
def mf(d:List (aD×aD))(a:Int)(i:Int):Int:=RU (pm d a i)*256^i.toNat
set_option tactic.hygienic true in theorem KV d a:∀n t,oP d a n=some t->((rangeInts 0 1 n).map (mf d a)).sum=t/\∀i∈rangeInts 0 1 n,∃b,pm d a i=.b b:=by intro g;induction g with|zero=>intro t h;exact J (ag h).symm ⟨rfl,λi y=>by simp [rangeInts]at y⟩|succ n w=>
intro t h;refine aP (m:=oP d a n) h λq o h=>?_;refine ae (w q o) λc f=>?_;have j:rangeInts 0 1 (n+1)=rangeInts 0 1 n++[(n:Int)]:=by unfold rangeInts;refine J List.range_succ ?_;simp
have p:pm d a n=(bD d (.b ((a+n)%dg))).getD (.b ((a+n)*7%251)):=rfl;refine cb h λb m z=>?_;have u:pm d a n=.b b:=Lc m;refine J z.symm ⟨?_,λi y=>?_⟩;. refine J j (J fz ?_);refine J List.sum_append (J c ?_);refine aJ (q+.) ((Int.add_zero _).trans ?_);unfold mf;exact J u rfl
. rw [j]at y;refine(cr.mp y).elim (λy=>?_) λy=>?_;. exact f i y
  . exact J (bF.mp y) ⟨b,u⟩
section
variable{z:Value->Shared->Prop}
theorem K0{p}{G L r}{m a0}(v:u.scope.kind=.function)(k1:u.kindOf "memory"=some .cell)(k2:u.kindOf "at"=some .cell)(k3:u.kindOf "each"=some .local)(k4:u.kindOf "_law_WORD"=some .globalImplicit)(c1:u.cells.lookup ("memory":Str)=some G)(c2:u.cells.lookup ("at":Str)=some L)(g1:s.heap.IsCell G (some (.ref r)))(g2:s.heap.IsCell L (some (.int a a4)))(a5:s.heap.Ns u.locals m)(a1:m "each"=some (.int i a6))(a7:s.heap.Ns u.globals a0)(a8:a0 "_law_WORD"=some (.int 4294967296 b0))(k:s.heap.DictOf (eQ g w) r l)(a9:dX d l)(hs:(r==sysModules)=false)(hb:pm d a i=.b b)(a2:0<=i/\i<=4)(hp:((p 1).endLine==(p 14).line)=true):wpAny (model g w) a3 (eval (Cy p) u) (λy t=>Carried y (.int (b*256^i.toNat))/\Keeps s t) z s:=by
 have c:∀{q:Pos}{f:Shared}{Q:Value->Shared->Prop},f.heap=s.heap->Q (.int i a6) f->wpAny (model g w) a3 (eval (.Name "each" q) u) Q z f:=λe h=>lZ (oF v k3 (e▸a5) a1 h) rfl;have Z:∀{q:Pos}{f:Shared}{Q:Value->Shared->Prop},f.heap=s.heap->Q (.int a a4) f->wpAny (model g w) a3 (eval (.Name "at" q) u) Q z f:=λe h=>lZ (wpAny_loadName_cell v k2 c2 (e▸g2) h) rfl;refine l' (xX rfl rfl hp (lZ (wpAny_loadName_cell v k1 c1 g1 ?_) rfl));refine(ax ("dict") ("dict.get") ⟨xV,sE,PySem.F.type_dict_get,k.typeIs,(λx P=>by cases P;refine D (jh.mp k) λo T R=>?_;refine bg R λI N V O=>?_;exact⟨_,T,V.2.1⟩),?_⟩);refine mc rfl (nk (jl (l' (l' (Z rfl (c rfl (add_int ?_)))))));refine qB v k4 (loadGlobal_global a7 a8 (mod_int' (by decide) ?_));refine jl (l' (l' (l' (Z rfl (c rfl (add_int (qA (mul_int ?_ (.of_right (by decide))))))))));refine qA (mod_int' (by decide) (lY ?_));have Y:(a+i).fmod 4294967296=(a+i)%4294967296:=jL _ (by decide);have U:((a+i)*7).fmod 251=(a+i)*7%251:=jL _ (by decide);refine J Y (J U ?_);have W:(eQ g w).is (.b ((a+i)%4294967296)) (.int ((a+i)%4294967296) (s.toks+1)):=ji ((a+i)%4294967296);refine call_meetsIn sE k.typeIs PySem.F.entry_dict_get (PySem.F.args_dict_get_3 _ _ _) (meets_dict_get_default (eQ g w) r W hs _) ⟨_,k.mapOf,?_⟩;refine D (Cb (k:=.b ((a+i)%4294967296)) (l:=.b ((a+i)*7%251)) a9 (O:=.int ((a+i)*7%251) (s.toks+1+1+1+1+1+1)) ⟨_,rfl⟩) λS C n=>?_;have F:(bD d (.b ((a+i)%4294967296))).getD (.b ((a+i)*7%251))=.b b:=hb;replace n:=F▸n;refine av n λX K=>?_;subst K;dsimp only;refine J C (l' (qA (c rfl (pow_int a2.1 ?_ ?_))))
 . have:Builtin.Int.intBits 256=9:=by decide+kernel
   refine J this ?_;clear C;lia
 refine mul_int ?_ (.of_right ?_);. exact⟨Carried.int _ _,_,_,rfl,λO O e=>e⟩
 . refine ae a2 λM A=>?_;refine av (Int.eq_ofNat_of_zero_le M) λj B=>?_;refine J B ?_;have E:j<=4:=by clear C;lia
   clear E M C F W U Y c hb a1;rcases j with _|_|_|_|_|j;all_goals first|decide+kernel|lia
end
inductive Gb(y:Heap)(d:Addr):Prop|a(q:Scope)(o:Obj)(z:Arguments)(g u j:Value)(p:Nat->Pos)(_:y.get? d=some o)(_:o.data=.func (docDef "_law_get" z (qR p) q g u j))(_:y.CodeRec u "_law_get")(_:∀w b c:Value,bindArgs (docDef "_law_get" z (qR p) q g u j) ⟨[w,b,c],[]⟩=pure [(("memory":Str),w),(("at":Str),b),(("width":Str),c)])(_:q.names=sW)(_:q.isCoroutine=false)(_:q.isGenerator=false)(_:q.kind=.function)(_:((p 1).endLine==(p 14).line)=true)
structure qW(z:Heap)(y q:Str->Option Value)(j:Addr):Prop where
a:Gb z j
b:y "sum"=none/\q "sum"=some (.builtin "sum")c:∃t,y "_law_WORD"=some (.int 4294967296 t)
theorem FS:∀{y:List Value}{z:List Int},CarriedAll y (z.map PyData.int)->IntsAre y z|_,[],h=>by cases h;exact .nil|_,n::z,h=>by replace h:=dU▸h;cases h with|cons c r=>cases c;exact .cons _ _ (FS r)
theorem Jo{z}{w}{u}{q}{g}{o}{c}{s:Shared}(m:aF z w u q g o c s.heap){a}{f}(r:bs z w u g o a f){d}(p:aO c a=.e d):∃j y,f=.ref j/\s.heap.DictOf (eQ z w) j y/\dX d y/\(j==sysModules)=false:=by refine gN (pA m r p) λj y t v k b=>?_;refine ae b λe O=>?_;exact(ax j y ⟨t,v,k,e⟩)
theorem KX(a7:fm h c4 G a4 a8 c5)(a9:qW h.d a4 a8 l){j}{n}{p}{b0:Around}{s:Shared}{z}{tk}{r}{a y t}{Q x b5}{d}{L}{b1:Result->Shared->Prop}(a3:Fr s.heap s.heap.objs.size z (bindL (envOfC "_law_get" j s.heap.objs.size l n).kindOf [(("memory":Str),.ref r),(("at":Str),.int a Q),(("width":Str),.int y x)] λO=>none))(b2:Cl s.heap.objs.size (cellsFrom (s.heap.objs.size+1) j.names []) z (bindC (envOfC "_law_get" j s.heap.objs.size l n).kindOf [(("memory":Str),.ref r),(("at":Str),.int a Q),(("width":Str),.int y x)] λO=>none))(a5:z.Ns mainGlobals a4)(b3:z.Ns builtinsNs a8)(b4:b0.handled=none)(q:j.names=sW)(hk:j.kind=.function)(hp:((p 1).endLine==(p 14).line)=true)(b6:a4 "_law_WORD"=some (.int 4294967296 b5))(b7:0<=y/\y<=4)(k:s.heap.DictOf (eQ h.a h.b) r L)(b8:dX d L)(a0:(r==sysModules)=false)(a1:((rangeInts 0 1 y.toNat).map (mf d a)).sum=t)(b9:∀i∈rangeInts 0 1 y.toNat,∃b,pm d a i=.b b)(c0:∀c1 a6 a2,(∀b o,s.heap.get? b=some o->a6.get? b=some o)->b1 (.ok (.ret (.int t c1))) {s with heap:=a6,toks:=a2}):wpAny (model h.a h.b) (b0.deeper (envOfC "_law_get" j s.heap.objs.size l n)) (execs (qR p) (envOfC "_law_get" j s.heap.objs.size l n)) (λf c2=>b1 (.ok (.ret (match f with|.ret v=>v|_=>.none))) c2) (λO O=>False) {s with heap:=z,toks:=tk}:=by
 obtain⟨H,c3,V,K,u⟩:=j;dsimp only at q hk;subst q hk;have B:(bindL (envOfC "_law_get" ⟨.function,sW,V,K,u⟩ s.heap.objs.size l n).kindOf [(("memory"),.ref r),(("at"),.int a Q),(("width"),.int y x)] λO=>none) "width"=some (.int y x):=rfl;have E:=b2.cell "memory" (s.heap.objs.size+1) rfl;have I:=b2.cell "at" (s.heap.objs.size+2) rfl;have L3:z.IsCell (s.heap.objs.size+1) (some (.ref r)):=E;have L4:z.IsCell (s.heap.objs.size+2) (some (.int a Q)):=I;clear E I;generalize(bindL (envOfC "_law_get" ⟨.function,sW,V,K,u⟩ s.heap.objs.size l n).kindOf [(("memory"),.ref r),(("at"),.int a Q),(("width"),.int y x)] λO=>none)=m at a3 B;refine no (wpAny_Return_some (qC (qB rfl rfl (loadGlobal_builtin a5 a9.b.1 b3 a9.b.2 ?_))));refine mc rfl (nk (jl ?_));refine ListComp_DCr (h₀:=s.heap) (L:=s.heap.objs.size) (m:=m) (pz:=λO=>true) (d:=λi=>.int (mf d a i)) b4 rfl (by decide) rfl (by decide) rfl ?_ (λO=>rfl);refine qC (qB rfl rfl (loadGlobal_builtin a5 a7.c.1 b3 a7.c.2 ?_));refine sH rfl (nk (jl (lZ (oF rfl rfl a3.ns B (lY (call_range_1 ?_))) rfl)));have F:Builtin.Range.rangeSize 0 y 1=y.toNat:=by refine(rangeSize_one _ _).trans ?_;split<;>lia
 have Z:∀b o,z.get? b=some o->(z.push {cls:=.type "range",data:=.fields #[.int 0 tk,.int y x,.int 1 (tk+1)]}).get? b=some o:=λb o e=>gZ _ e;refine(Km [] z.objs.size 0 y 1 _ _ _ y.toNat ⟨rfl,gj _ rfl,small_one (by decide) (by decide) (by lia) (Int.lt_of_le_of_lt b7.right (by decide)),F,by refine J gB ?_;lia,a3.keeps Z,News.nil,?_,?_,?_⟩);. intro C i v w Y E' _ _ _ _ _ _;exact fa ⟨rfl,_,_,rfl,λO O e=>e⟩
 . intro C i v w Y E' _ U hv _ M vn P;refine av (b9 i U) λb N=>?_;refine av (ItemKind.int_is hv) λti z2=>?_;subst z2;have hr:=mem_rangeInts U;have W:∀b o,z.get? b=some o->w.heap.get? b=some o:=λb o e=>P b o (Z b o e);have ht:mf d a i=b*256^i.toNat:=by unfold mf;exact J N rfl
   exact J ht (K0 rfl rfl rfl rfl rfl rfl rfl (L3.keeps W) (L4.keeps W) M vn (a5.keeps W) b6 (by refine D (jh.mp k) λo g dd=>?_;exact jh.mpr ⟨o,W _ _ (a3.keep _ _ g),dd⟩) b8 a0 N (by lia) hp)
 . intro c6 ys a6 a2 J1 _ _ hl _ S;refine lY ?_;have T:CarriedAll ys (((rangeInts 0 1 y.toNat).map (mf d a)).map PyData.int):=by rw [mZ.mpr (λO O=>rfl)]at S;simpa [di,Function.comp_def]using S
   have U:=FS T;refine av (U.allInts.items) λX A=>?_;have c:numsOf (intItems X).toList=(rangeInts 0 1 y.toNat).map (mf d a):=by exact J (aN A) U.numsOf
   rw [nums_intItems]at c;refine sum_intListG (xs:=X) b4 (A▸hl) λR XR t' qU=>?_;refine J (preSum_eq _ _) (J (jg (by simp)) ?_);refine J c (J a1 ?_);exact c0 _ R XR λb o e=>qU b o (J1.keep b o e)
theorem KY(L:fm j b2 G a5 a6 b3)(a0:qW j.d a5 a6 a7)(c:j.d.NoLimit){a3}{a4}{v}{Q}(n:j.c a1 φ σ s.heap)(r:j.g a1 φ a4 a8)(e:yy a4 σ=some (v,a2))(hb:oS a9 1)(k:j.f j.e a1 φ σ s v a2 Q):wpAny (model j.a j.b) a9 (PySem.call (.ref a7) a8 []) Q a3 s:=by
 obtain⟨X,o,h,pm,cd,A,p,H,u,Z,g,z,Y,f,D,hp⟩:=a0.a;refine av (a0.c) λtw hw=>?_;have q:=aF.r n;refine tQ e λmv x y C F=>?_;refine aP F λa M P=>?_;refine aP P λwd T R=>?_;refine aP R λd hd K=>?_;refine eI K λAg B=>?_;refine cb B λt ht q6=>?_;clear e F P R K B;obtain rfl:=xt C;obtain rfl:=V.m M;obtain rfl:=V.m T;obtain⟨rfl,rfl⟩:=ey q6;clear C M T;refine ae (KV d a wd.toNat t ht) λm zN=>?_;refine bg r λrm O z4 z5=>?_;refine J z4 (ae z5 λr1 E=>?_);refine bg (be.R E) λra b0 z6 z7=>?_;refine J z6 (ae z7 λr2 r3=>?_);clear E;refine av r2 λta z8=>?_;refine J z8 (av r3 λt3 z9=>?_);refine J z9 (bg (Jo n r1 (V.x hd)) λad b1 co cC=>?_);refine J co (bk cC λw zx i=>?_);refine mI k λQ' k'=>?_;have P9:(cellsFrom (s.heap.objs.size+1) X.names [])=[(("at":Str),s.heap.objs.size+2),(("memory"),s.heap.objs.size+1)]:=by exact J z rfl
 refine wpAny_call (call_cells_ret ?_ (q _ _ H) u (c.keeps q) (Z.keeps q) (g _ _ _) (λx I=>?_) (λN tk U tA=>?_) Y f D);. have:=hb.b;have:recursionLimit=1000:=rfl;lia
 . simp only [List.mem_cons,List.not_mem_nil,or_false]at I;refine J P9 (J z ?_);rcases I with rfl|rfl|rfl;. exact .inr ⟨rfl,rfl⟩
   . exact .inr ⟨rfl,rfl⟩
   . exact .inl rfl
 . refine KX (b1:=λr S=>match r with|.ok (.ret v)=>Q' v S|.ok _=>False|.error e=>a3 e S) L a0 U tA (L.d.keeps λb o e=>U.keep b o (q b o e)) (L.b.keeps λb o e=>U.keep b o (q b o e)) hb.a z D hp hw Ag w zx i m zN ?_;intro rt h' W l;exact k' _ a1 φ h' W (Mp.aF.t n l).1 (Mp.aF.t n l).2 f_
theorem HS(n:fm g a1 G a L b){q}(i:qW g.d a L (b q))(j:g.d.NoLimit)(a0:∀w d,Φ q w d=yy w d):hE g Φ q (b q):=by intro A E s Z c Q f h;obtain⟨Y,o,z,U,W,m,p,D,y,_,_,_,_,_,_⟩:=i.a;refine callWith_function (o:=o) (fd:=docDef "_law_get" z (qR p) Y U W m) (fx h (λx l u=>?_) λO O x=>x);refine vQ u λt F T d w C=>?_;refine gN C λv M e S r P=>?_;refine ae P λR k=>?_;refine⟨⟨aF.r S _ _ D,y⟩,?_⟩;refine J t ?_;(refine J (mY _) ?_);rw [a0]at e;exact KY n i j S r e ⟨f.a,au (bw A.depth q) f.b,bl (ng (gY (Nat.succ 9) (Nat.mul 10 q)) A.units) f.c⟩ k
theorem hE.q(h:hE u g k f)(e:w k=g k):hE u w k f:=by intro A E s y z Q o d;refine h A E s y z Q o (fx d (λx j c=>?_) λO O x=>x);exact(e▸c)
theorem NW{w n k}(h:k<n):iQ w (n+1) k=iQ w n k:=by funext z y;refine(?_:(if k=n then _ else _)=_);exact J (if_neg (iJ h)) rfl
theorem Bf(g:∀q j,w k q j=none):hE p w k f:=by intro A E s o y Q t h;refine bT (gV (fx h (λa u z=>?_) λO O x=>x));refine vQ z λd F r j q c=>?_;refine bg c λv m e O=>?_;rw [g]at e;exact C e
structure At(z:bW)(q:Frag)(u w:Str->Option Value)(y:Nat->Addr)(m:Addr):Prop where
b:fm z fo aj u w y
d:∃o,z.d.get? sysModules=some o
a:z.d.NoLimit
g:oT q z.h m
e:q.In z.d
i:ta z.d m
j:y vt=z.h
h:qW z.d u w (y my)c:∀k f,hG[k]?=some (some f)->qj z fo k f (y k)
theorem zO{t}{r v}{m}(z:At b t r v m i)w:∀n k,k<n->hE b (iQ w n) k (m k)
|0,k,h=>absurd h (jm _)|n+1,k,h=>by
 refine(qk k n).elim (λq=>?_) λq=>?_;. exact(zO z w n k q).q (NW q)
 . obtain rfl:k=n:=gk (eB h) q;by_cases c:k=vt;. clear q h;refine J c ?_;exact J z.j (HT z.g z.e z.i z.a λu g=>rfl)
   by_cases p:k=my;. clear c q h;refine J p ?_;exact HS z.b z.h z.a λu g=>rfl
   have y:∀u g,iQ w (k+1) k u g=match(hG[k]?).join with|some f=>nC aj (iQ w k) w f u g|none=>none:=λu g=>by show(if k=k then(if k=vt then _ else if k=my then _ else _)else _)=_;(refine J (if_pos rfl) (J (if_neg c) ?_);refine J (if_neg p) ?_)<;>rfl
   refine fC (o:=hG[k]?) (λd=>?_) λo d=>?_;. replace y:=d▸y;exact Bf y
   . induction o with|none=>replace y:=d▸y;exact Bf y|some f=>exact HR z.b z.d z.a (λj e=>zO z w k j e) (z.c k f d) (d▸y)
noncomputable abbrev bO:Program:=PySem.Challenge.pw_nm0024_01
def hl(n q:Str)(g b:Addr)(doc z y:Value):FuncData:=match bO.theDef n with|some (a,j,u)=>{name:=n,qualname:=q,params:=a,body:=.stmts j,scope:=u,globals:=g,closure:=[],defaults:=.none,kwdefaults:=.none,doc,pyModule:=z,code:=y,builtins:=b}|none=>default
def ar(z:Params)(k:Str)(t:Tok)(v:Value):DictEntry:=⟨PyData.keyHash z k,.str k t,v⟩
noncomputable def zp:List Obj->List Obj|[]=>[]|[x]=>[x]|x::_::l=>x::zp l
noncomputable def sa:Nat->List Obj->BT|0,_=>.nil|_,[]=>.nil|n+1,x::l=>.node x (sa n (zp l)) (sa n (zp (l.drop 1)))
noncomputable def N6(z:Params):List Obj:=[boot_o_0 z,boot_o_1 z,boot_o_2 z,boot_o_3 z,boot_o_4 z,boot_o_5 z,boot_o_6 z,boot_o_7 z,boot_o_8 z,boot_o_9 z,boot_o_10 z,⟨.type "tuple",none,.seq #[] 0,#[]⟩,⟨.none,none,.fields #[],#[]⟩,⟨.type "code",none,.fields #[.str "<module>" 182,.str "<module>" 183,.str "/claim/cut.py" 184,.int 1 0,.int 0 0,.int 0 0,.int 0 0,.int 0 0,.ref 11,.bool false,.int 181 0,.ref 12,.none,.none,.none,.none,.int 185 0,.int 1 0,.str "/claim/cut.py" 186],#[]⟩,⟨.type "frame",none,.plain,#[some (.ref 13),some (.ref 3),some (.ref 3),none,some (.str "__main__" 164),none,some (.ref 0)]⟩]
noncomputable abbrev eu(x:Array Value):Obj:=⟨.type "tuple",none,.seq x 0,#[]⟩
noncomputable abbrev fF(c:String)(x:Array Value):Obj:=⟨.type c,none,.fields x,#[]⟩
noncomputable abbrev jp(x:Array Value):Obj:=⟨.none,none,.fields x,#[]⟩
def eW(f:bn)(t:Tok)(z:Int)(a:Addr):List Obj:=[eu #[],jp #[],eu ((f.b.zipIdx (t+3)).map λp=>.str p.1 p.2).toArray,eu #[],⟨.none,none,.func (hl f.d f.d 0 0 .none .none .none),#[]⟩,fF "code" #[.str f.d t,.str f.d (t+1),.str "/claim/cut.py" (t+2),.int z 0,.int (f.a:Int) 0,.int 0 0,.int 0 0,.int 3 0,.ref a,.bool true,.int 181 0,.ref (a+1),.none,.ref (a+2),.ref (a+3),.ref (a+4),.int ((t+3+f.b.length:Nat):Int) 0,.int z 0,.str "/claim/cut.py" (t+4+f.b.length)],⟨.type "function",none,.func (hl f.d f.d 3 0 .none (.str "corecc.peephole" 499) (.ref (a+5))),#[]⟩]
noncomputable def dG(i:Int)(t:Tok)(r:Str)(u:Tok)(a:Addr):List Obj:=[eu #[.int i t,.str r u],fF "tuple_iterator" #[.none,.int 2 0],eu #[],fF "StopIteration" #[.ref a,.none,.none,.none,.bool false,.none]]
def vx(z:Params):List Obj:=[boot_o_0 z,boot_o_1 z,boot_o_2 z,⟨.type "dict",none,.dict #[ar z "__name__" 165 (.str "corecc.peephole" 499),ar z "__doc__" 166 (.none),ar z "__package__" 167 (.none),ar z "__loader__" 168 (.builtin "__main__.__loader__#opaque"),ar z "__spec__" 169 (.none),ar z "__annotations__" 170 (.ref 6),ar z "__builtins__" 171 (.ref 4),ar z "__file__" 173 (.str "/claim/cut.py" 172),ar z "__cached__" 174 (.none),ar z "REGISTER_NAMES" 221 (.ref 15),ar z "numbers_by_name" 230 (.ref 22),ar z "REGISTER_NUMBERS" 491 (.ref 24),ar z "register_number" 498 (.ref 163),ar z "WORD_SIZE" 502 (.int 4294967296 501),ar z "BRANCHES" 521 (.ref 164)] 15,#[]⟩,boot_o_4 z,boot_o_5 z,boot_o_6 z,boot_o_7 z,boot_o_8 z,boot_o_9 z,boot_o_10 z,eu #[],jp #[.int 3 0,.int 0 0,.ref 21,.int 10 0,.int 0 0,.ref 162],fF "code" #[.str "<module>" 182,.str "<module>" 183,.str "/claim/cut.py" 184,.int 1 0,.int 0 0,.int 0 0,.int 0 0,.int 0 0,.ref 11,.bool false,.int 181 0,.ref 12,.none,.none,.none,.none,.int 185 0,.int 1 0,.str "/claim/cut.py" 186],⟨.type "frame",none,.plain,#[some (.ref 13),some (.ref 3),some (.ref 3),none,some (.str "__main__" 164),none,some (.ref 0)]⟩,⟨.type "list",none,.seq #[.str "zero" 189,.str "ra" 190,.str "sp" 191,.str "gp" 192,.str "tp" 193,.str "t0" 194,.str "t1" 195,.str "t2" 196,.str "s0" 197,.str "s1" 198,.str "a0" 199,.str "a1" 200,.str "a2" 201,.str "a3" 202,.str "a4" 203,.str "a5" 204,.str "a6" 205,.str "a7" 206,.str "s2" 207,.str "s3" 208,.str "s4" 209,.str "s5" 210,.str "s6" 211,.str "s7" 212,.str "s8" 213,.str "s9" 214,.str "s10" 215,.str "s11" 216,.str "t3" 217,.str "t4" 218,.str "t5" 219,.str "t6" 220] 0,#[]⟩,eu #[],jp #[],eu #[.str "found" 225,.str "number" 226,.str "name" 227],eu #[],⟨.none,none,.func (hl "numbers_by_name" "numbers_by_name" 0 0 (.none) (.none) (.none)),#[]⟩,fF "code" #[.str "numbers_by_name" 222,.str "numbers_by_name" 223,.str "/claim/cut.py" 224,.int 3 0,.int 0 0,.int 0 0,.int 0 0,.int 3 0,.ref 16,.bool true,.int 181 0,.ref 17,.none,.ref 18,.ref 19,.ref 20,.int 228 0,.int 3 0,.str "/claim/cut.py" 229],⟨.type "function",none,.func (hl "numbers_by_name" "numbers_by_name" 3 0 (.none) (.str "corecc.rv32" 187) (.ref 21)),#[]⟩,⟨.type "frame",none,.dict #[ar z "found" 234 (.ref 24),ar z "number" 236 (.int 31 483),ar z "name" 237 (.str "t6" 220)] 3,#[]⟩,⟨.type "dict",none,.dict #[ar z "fp" 231 (.int 8 232),ar z "zero" 189 (.int 0 235),ar z "x0" 241 (.int 0 235),ar z "ra" 190 (.int 1 243),ar z "x1" 249 (.int 1 243),ar z "sp" 191 (.int 2 251),ar z "x2" 257 (.int 2 251),ar z "gp" 192 (.int 3 259),ar z "x3" 265 (.int 3 259),ar z "tp" 193 (.int 4 267),ar z "x4" 273 (.int 4 267),ar z "t0" 194 (.int 5 275),ar z "x5" 281 (.int 5 275),ar z "t1" 195 (.int 6 283),ar z "x6" 289 (.int 6 283),ar z "t2" 196 (.int 7 291),ar z "x7" 297 (.int 7 291),ar z "s0" 197 (.int 8 299),ar z "x8" 305 (.int 8 299),ar z "s1" 198 (.int 9 307),ar z "x9" 313 (.int 9 307),ar z "a0" 199 (.int 10 315),ar z "x10" 321 (.int 10 315),ar z "a1" 200 (.int 11 323),ar z "x11" 329 (.int 11 323),ar z "a2" 201 (.int 12 331),ar z "x12" 337 (.int 12 331),ar z "a3" 202 (.int 13 339),ar z "x13" 345 (.int 13 339),ar z "a4" 203 (.int 14 347),ar z "x14" 353 (.int 14 347),ar z "a5" 204 (.int 15 355),ar z "x15" 361 (.int 15 355),ar z "a6" 205 (.int 16 363),ar z "x16" 369 (.int 16 363),ar z "a7" 206 (.int 17 371),ar z "x17" 377 (.int 17 371),ar z "s2" 207 (.int 18 379),ar z "x18" 385 (.int 18 379),ar z "s3" 208 (.int 19 387),ar z "x19" 393 (.int 19 387),ar z "s4" 209 (.int 20 395),ar z "x20" 401 (.int 20 395),ar z "s5" 210 (.int 21 403),ar z "x21" 409 (.int 21 403),ar z "s6" 211 (.int 22 411),ar z "x22" 417 (.int 22 411),ar z "s7" 212 (.int 23 419),ar z "x23" 425 (.int 23 419),ar z "s8" 213 (.int 24 427),ar z "x24" 433 (.int 24 427),ar z "s9" 214 (.int 25 435),ar z "x25" 441 (.int 25 435),ar z "s10" 215 (.int 26 443),ar z "x26" 449 (.int 26 443),ar z "s11" 216 (.int 27 451),ar z "x27" 457 (.int 27 451),ar z "t3" 217 (.int 28 459),ar z "x28" 465 (.int 28 459),ar z "t4" 218 (.int 29 467),ar z "x29" 473 (.int 29 467),ar z "t5" 219 (.int 30 475),ar z "x30" 481 (.int 30 475),ar z "t6" 220 (.int 31 483),ar z "x31" 489 (.int 31 483)] 65,#[]⟩,fF "list_iterator" #[.none,.int 32 0],fF "enumerate" #[.none,.bool false,.ref 25,.int 32 0,.none,.str "t6" 220]]++dG 0 235 "zero" 189 29++dG 1 243 "ra" 190 33++dG 2 251 "sp" 191 37++dG 3 259 "gp" 192 41++dG 4 267 "tp" 193 45++dG 5 275 "t0" 194 49++dG 6 283 "t1" 195 53++dG 7 291 "t2" 196 57++dG 8 299 "s0" 197 61++dG 9 307 "s1" 198 65++dG 10 315 "a0" 199 69++dG 11 323 "a1" 200 73++dG 12 331 "a2" 201 77++dG 13 339 "a3" 202 81++dG 14 347 "a4" 203 85++dG 15 355 "a5" 204 89++dG 16 363 "a6" 205 93++dG 17 371 "a7" 206 97++dG 18 379 "s2" 207 101++dG 19 387 "s3" 208 105++dG 20 395 "s4" 209 109++dG 21 403 "s5" 210 113++dG 22 411 "s6" 211 117++dG 23 419 "s7" 212 121++dG 24 427 "s8" 213 125++dG 25 435 "s9" 214 129++dG 26 443 "s10" 215 133++dG 27 451 "s11" 216 137++dG 28 459 "t3" 217 141++dG 29 467 "t4" 218 145++dG 30 475 "t5" 219 149++dG 31 483 "t6" 220 153++[eu #[],fF "StopIteration" #[.ref 155,.none,.none,.none,.bool false,.none],eu #[],jp #[],eu #[.str "text" 495],eu #[],⟨.none,none,.func (hl "register_number" "register_number" 0 0 (.none) (.none) (.none)),#[]⟩,fF "code" #[.str "register_number" 492,.str "register_number" 493,.str "/claim/cut.py" 494,.int 10 0,.int 1 0,.int 0 0,.int 0 0,.int 3 0,.ref 157,.bool true,.int 181 0,.ref 158,.none,.ref 159,.ref 160,.ref 161,.int 496 0,.int 10 0,.str "/claim/cut.py" 497],⟨.type "function",none,.func (hl "register_number" "register_number" 3 0 (.none) (.str "corecc.rv32" 187) (.ref 162)),#[]⟩,⟨.type "dict",none,.dict #[ar z "beq" 503 (.str "bne" 504),ar z "bne" 505 (.str "beq" 506),ar z "blt" 507 (.str "bge" 508),ar z "bge" 509 (.str "blt" 510),ar z "bltu" 511 (.str "bgeu" 512),ar z "bgeu" 513 (.str "bltu" 514)] 6,#[]⟩]
noncomputable def kG:MethRec:=by refine(?f:∀{q j u n a b g w o y d c m p t r v k e i l},bO.main.body[13]?=some (Stmt.ClassDef q j u (Stmt.FunctionDef n a b g w o y d c m::p) t r v k e i l)->MethRec) rfl;intro q j u n a b g w o y d c m p t r v k e i l z;exact⟨n,a,b,y⟩
def BI(g b:Addr)(doc z y:Value):FuncData:={name:=kG.name,qualname:="Line.__init__",params:=kG.params,body:=.stmts kG.body,scope:=kG.scope,globals:=g,closure:=[],defaults:=.none,kwdefaults:=.none,doc,pyModule:=z,code:=y,builtins:=b}
def N7(z:Params):List Obj:=(vx z).take 3++⟨.type "dict",none,.dict #[ar z "__name__" 165 (.str "law_nm0024_01" 867),ar z "__doc__" 166 (.none),ar z "__package__" 167 (.none),ar z "__loader__" 168 (.builtin "__main__.__loader__#opaque"),ar z "__spec__" 169 (.none),ar z "__annotations__" 170 (.ref 6),ar z "__builtins__" 171 (.ref 4),ar z "__file__" 173 (.str "/claim/cut.py" 172),ar z "__cached__" 174 (.none),ar z "REGISTER_NAMES" 221 (.ref 15),ar z "numbers_by_name" 230 (.ref 22),ar z "REGISTER_NUMBERS" 491 (.ref 24),ar z "register_number" 498 (.ref 163),ar z "WORD_SIZE" 502 (.int 4294967296 501),ar z "BRANCHES" 521 (.ref 164),ar z "SETTING" 553 (.ref 165),ar z "STORES" 557 (.ref 166),ar z "LETTERS" 559 (.str "ABCDEFGHIJKLMNOPQRSTUVWXYZabcdefghijklmnopqrstuvwxyz_" 558),ar z "SIGNS" 562 (.str "ABCDEFGHIJKLMNOPQRSTUVWXYZabcdefghijklmnopqrstuvwxyz_0123456789.$" 561),ar z "SECTIONS" 568 (.ref 167),ar z "Line" 603 (.ref 184),ar z "name_and_parts" 609 (.ref 193),ar z "read_line" 620 (.ref 200),ar z "code_line" 628 (.ref 207),ar z "is_jump" 635 (.ref 214),ar z "is_branch" 642 (.ref 221),ar z "never_falls" 649 (.ref 228),ar z "is_label_text" 657 (.ref 235),ar z "code_labels" 669 (.ref 242),ar z "reaches_on" 681 (.ref 249),ar z "is_turnable" 690 (.ref 256),ar z "next_code" 698 (.ref 263),ar z "labels_from" 704 (.ref 268),ar z "reached_lines" 714 (.ref 275),ar z "leads_of" 725 (.ref 282),ar z "last_goal" 734 (.ref 289),ar z "own_labels" 743 (.ref 296),ar z "led_lines" 757 (.ref 303),ar z "over_jump" 766 (.ref 310),ar z "short_lines" 778 (.ref 317),ar z "number_in" 786 (.ref 324),ar z "told_number" 796 (.ref 331),ar z "is_idle" 802 (.ref 336),ar z "fetched_line" 810 (.ref 343),ar z "set_register" 818 (.ref 350),ar z "is_pair_known" 830 (.ref 357),ar z "after" 840 (.ref 364),ar z "needed_lines" 854 (.ref 371),ar z "texts_of" 860 (.ref 376),ar z "peephole" 866 (.ref 381)] 50,#[]⟩::((vx z).drop 4).take 8++jp #[.int 3 0,.int 0 0,.ref 21,.int 10 0,.int 0 0,.ref 162,.int 20 0,.int 0 0,.ref 173,.int 27 0,.int 0 0,.ref 192,.int 30 0,.int 0 0,.ref 199,.int 44 0,.int 0 0,.ref 206,.int 46 0,.int 0 0,.ref 213,.int 48 0,.int 0 0,.ref 220,.int 50 0,.int 0 0,.ref 227,.int 54 0,.int 0 0,.ref 234,.int 57 0,.int 0 0,.ref 241,.int 67 0,.int 0 0,.ref 248,.int 79 0,.int 0 0,.ref 255,.int 88 0,.int 0 0,.ref 262,.int 92 0,.int 0 0,.ref 267,.int 94 0,.int 0 0,.ref 274,.int 104 0,.int 0 0,.ref 281,.int 112 0,.int 0 0,.ref 288,.int 118 0,.int 0 0,.ref 295,.int 124 0,.int 0 0,.ref 302,.int 137 0,.int 0 0,.ref 309,.int 143 0,.int 0 0,.ref 316,.int 157 0,.int 0 0,.ref 323,.int 164 0,.int 0 0,.ref 330,.int 173 0,.int 0 0,.ref 335,.int 182 0,.int 0 0,.ref 342,.int 188 0,.int 0 0,.ref 349,.int 195 0,.int 0 0,.ref 356,.int 206 0,.int 0 0,.ref 363,.int 216 0,.int 0 0,.ref 370,.int 237 0,.int 0 0,.ref 375,.int 239 0,.int 0 0,.ref 380]::(vx z).drop 13++[eu #[.str "add" 522,.str "sub" 523,.str "sll" 524,.str "slt" 525,.str "sltu" 526,.str "xor" 527,.str "srl" 528,.str "sra" 529,.str "or" 530,.str "and" 531,.str "mul" 532,.str "mulh" 533,.str "mulhsu" 534,.str "mulhu" 535,.str "div" 536,.str "divu" 537,.str "rem" 538,.str "remu" 539,.str "slti" 540,.str "sltiu" 541,.str "xori" 542,.str "ori" 543,.str "andi" 544,.str "slli" 545,.str "srli" 546,.str "srai" 547,.str "lb" 548,.str "lh" 549,.str "lw" 550,.str "lbu" 551,.str "lhu" 552],eu #[.str "sb" 554,.str "sh" 555,.str "sw" 556],eu #[.str ".text" 563,.str ".data" 564,.str ".rodata" 565,.str ".bss" 566,.str ".section" 567],eu #[],fF "builtin_function_or_method" #[.builtin "type.__prepare__",.type "type"],⟨.type "dict",none,.dict #[ar z "__module__" 576 (.str "corecc.peephole" 499),ar z "__qualname__" 578 (.str "Line" 577),ar z "__firstlineno__" 580 (.int 20 579),ar z "__init__" 591 (.ref 181),ar z "__static_attributes__" 596 (.ref 182)] 5,#[]⟩,eu #[],jp #[.int 22 0,.int 4 0,.ref 180],fF "code" #[.str "Line" 571,.str "Line" 572,.str "/claim/cut.py" 573,.int 20 0,.int 0 0,.int 0 0,.int 0 0,.int 0 0,.ref 171,.bool false,.int 181 0,.ref 172,.none,.none,.none,.none,.int 574 0,.int 20 0,.str "/claim/cut.py" 575],⟨.type "frame",none,.plain,#[some (.ref 173),some (.ref 3),some (.ref 170),none,some (.str "corecc.peephole" 499),none,some (.ref 0)]⟩,eu #[],jp #[],eu #[.str "self" 584,.str "text" 585,.str "kind" 586,.str "name" 587,.str "parts" 588],eu #[],⟨.none,none,.func (BI 0 0 (.none) (.none) (.none)),#[]⟩,fF "code" #[.str "__init__" 581,.str "Line.__init__" 582,.str "/claim/cut.py" 583,.int 22 0,.int 5 0,.int 0 0,.int 0 0,.int 3 0,.ref 175,.bool true,.int 181 0,.ref 176,.none,.ref 177,.ref 178,.ref 179,.int 589 0,.int 22 0,.str "/claim/cut.py" 590],⟨.type "function",none,.func (BI 3 0 (.none) (.str "corecc.peephole" 499) (.ref 180)),#[]⟩,eu #[.str "kind" 592,.str "name" 593,.str "parts" 594,.str "text" 595],⟨.type "dict",none,.dict #[ar z "__module__" 576 (.str "corecc.peephole" 499),ar z "__firstlineno__" 580 (.int 20 579),ar z "__init__" 591 (.ref 181),ar z "__static_attributes__" 596 (.ref 182),ar z "__dict__" 598 (.ref 185),ar z "__weakref__" 600 (.ref 186),ar z "__doc__" 601 (.none)] 4,#[]⟩,⟨.type "type",none,.cls {name:="Line",bases:=[.type "object"],mro:=[.ref 184,.type "object"],ns:=183,qualname:="Line"},#[none,none,some (.str "Line" 569),some (.str "Line" 577),some (.builtin "object.__new__"),some (.bool true)]⟩,fF "getset_descriptor" #[.str "__dict__" 597,.ref 184,.builtin "function.__dict__",.builtin "function.__dict__#set"],fF "getset_descriptor" #[.str "__weakref__" 599,.ref 184,.builtin "ExceptionGroup.__weakref__",.none],fF "super" #[.ref 184,.ref 184,.ref 184],fF "builtin_function_or_method" #[.builtin "object.__init_subclass__",.ref 184],eu #[],jp #[],⟨.none,none,.func (hl "name_and_parts" "name_and_parts" 0 0 (.none) (.none) (.none)),#[]⟩,fF "code" #[.str "name_and_parts" 604,.str "name_and_parts" 605,.str "/claim/cut.py" 606,.int 27 0,.int 1 0,.int 0 0,.int 0 0,.int 3 0,.ref 189,.bool true,.int 181 0,.ref 190,.none,.none,.none,.ref 191,.int 607 0,.int 27 0,.str "/claim/cut.py" 608],⟨.type "function",none,.func (hl "name_and_parts" "name_and_parts" 3 0 (.none) (.str "corecc.peephole" 499) (.ref 192)),#[]⟩]++eW ph 610 30 194++eW zq 621 44 201++eW BW 629 46 208++eW BV 636 48 215++eW B8 643 50 222++eW qN 650 54 229++eW pf 658 57 236++eW kE 670 67 243++eW zs 682 79 250++eW Aa 691 88 257++[eu #[],jp #[],⟨.none,none,.func (hl "labels_from" "labels_from" 0 0 (.none) (.none) (.none)),#[]⟩,fF "code" #[.str "labels_from" 699,.str "labels_from" 700,.str "/claim/cut.py" 701,.int 92 0,.int 2 0,.int 0 0,.int 0 0,.int 3 0,.ref 264,.bool true,.int 181 0,.ref 265,.none,.none,.none,.ref 266,.int 702 0,.int 92 0,.str "/claim/cut.py" 703],⟨.type "function",none,.func (hl "labels_from" "labels_from" 3 0 (.none) (.str "corecc.peephole" 499) (.ref 267)),#[]⟩]++eW Ae 705 94 269++eW tJ 715 104 276++eW tE 726 112 283++eW tL 735 118 290++eW tK 744 124 297++eW Ac 758 137 304++eW tM 767 143 311++eW Ab 779 157 318++eW tN 787 164 325++[eu #[],jp #[],⟨.none,none,.func (hl "is_idle" "is_idle" 0 0 (.none) (.none) (.none)),#[]⟩,fF "code" #[.str "is_idle" 797,.str "is_idle" 798,.str "/claim/cut.py" 799,.int 173 0,.int 1 0,.int 0 0,.int 0 0,.int 3 0,.ref 332,.bool true,.int 181 0,.ref 333,.none,.none,.none,.ref 334,.int 800 0,.int 173 0,.str "/claim/cut.py" 801],⟨.type "function",none,.func (hl "is_idle" "is_idle" 3 0 (.none) (.str "corecc.peephole" 499) (.ref 335)),#[]⟩]++eW tC 803 182 337++eW B' 811 188 344++eW tD 819 195 351++eW tB 831 206 358++eW pg 841 216 365++[eu #[],jp #[],⟨.none,none,.func (hl "texts_of" "texts_of" 0 0 (.none) (.none) (.none)),#[]⟩,fF "code" #[.str "texts_of" 855,.str "texts_of" 856,.str "/claim/cut.py" 857,.int 237 0,.int 1 0,.int 0 0,.int 0 0,.int 3 0,.ref 372,.bool true,.int 181 0,.ref 373,.none,.none,.none,.ref 374,.int 858 0,.int 237 0,.str "/claim/cut.py" 859],⟨.type "function",none,.func (hl "texts_of" "texts_of" 3 0 (.none) (.str "corecc.peephole" 499) (.ref 375)),#[]⟩,eu #[],jp #[],⟨.none,none,.func (hl "peephole" "peephole" 0 0 (.none) (.none) (.none)),#[]⟩,fF "code" #[.str "peephole" 861,.str "peephole" 862,.str "/claim/cut.py" 863,.int 239 0,.int 1 0,.int 0 0,.int 0 0,.int 3 0,.ref 377,.bool true,.int 181 0,.ref 378,.none,.none,.none,.ref 379,.int 864 0,.int 239 0,.str "/claim/cut.py" 865],⟨.type "function",none,.func (hl "peephole" "peephole" 3 0 (.none) (.str "corecc.peephole" 499) (.ref 380)),#[]⟩]
noncomputable def hJ:Env:={scope:=bO.main.scope,locals:=mainNs,globals:=mainNs,cells:=[],code:=.ref 13,frame:=some 14}
def dH:Code:=.body (behindTheImports bO) hJ
noncomputable abbrev pE:Pos:=⟨14,0,14,8⟩
def lO (w : World) (z : OsState) : SharedT := ⟨sa 12 (N6 w.params), 15, {}, #[], {}, 187, z⟩
noncomputable def oB (w : World) (z : OsState) : SharedT := ⟨sa 12 (vx w.params), 165, {}, #[], {}, 522, z⟩
noncomputable abbrev mB:Pos:=⟨249,0,249,8⟩
noncomputable def lP (w : World) (z : OsState) : SharedT := ⟨sa 12 (N7 w.params), 382, {}, #[], {}, 869, z⟩
noncomputable def rU:List Stmt:=bO.main.body.take 8
noncomputable def xl:List Stmt:=(bO.main.body.drop 8).take 36
noncomputable def ot:List Stmt:=bO.main.body.drop 44
noncomputable abbrev ki:=PySem.W.Fast.tw14364793385576792824
noncomputable def kf:Program:={bO with main:={bO.main with body:=bO.main.body.drop 80}}
noncomputable def rA:List (Str×Value):=[(.ofString "REGISTER_NAMES",.ref 15),(.ofString "numbers_by_name",.ref 22),(.ofString "REGISTER_NUMBERS",.ref 24),(.ofString "register_number",.ref 163),(.ofString "WORD_SIZE",.int 4294967296 501),(.ofString "BRANCHES",.ref 164),(.ofString "SETTING",.ref 165),(.ofString "STORES",.ref 166),(.ofString "LETTERS",.str "ABCDEFGHIJKLMNOPQRSTUVWXYZabcdefghijklmnopqrstuvwxyz_" 558),(.ofString "SIGNS",.str "ABCDEFGHIJKLMNOPQRSTUVWXYZabcdefghijklmnopqrstuvwxyz_0123456789.$" 561),(.ofString "SECTIONS",.ref 167),(.ofString "Line",.ref 184),(.ofString "name_and_parts",.ref 193),(.ofString "read_line",.ref 200),(.ofString "code_line",.ref 207),(.ofString "is_jump",.ref 214),(.ofString "is_branch",.ref 221),(.ofString "never_falls",.ref 228),(.ofString "is_label_text",.ref 235),(.ofString "code_labels",.ref 242),(.ofString "reaches_on",.ref 249),(.ofString "is_turnable",.ref 256),(.ofString "next_code",.ref 263),(.ofString "labels_from",.ref 268),(.ofString "reached_lines",.ref 275),(.ofString "leads_of",.ref 282),(.ofString "last_goal",.ref 289),(.ofString "own_labels",.ref 296),(.ofString "led_lines",.ref 303),(.ofString "over_jump",.ref 310),(.ofString "short_lines",.ref 317),(.ofString "number_in",.ref 324),(.ofString "told_number",.ref 331),(.ofString "is_idle",.ref 336),(.ofString "fetched_line",.ref 343),(.ofString "set_register",.ref 350),(.ofString "is_pair_known",.ref 357),(.ofString "after",.ref 364),(.ofString "needed_lines",.ref 371),(.ofString "texts_of",.ref 376),(.ofString "peephole",.ref 381),(.ofString "_law_NAMES",.ref 382),(.ofString "_law_PLACES",.ref 389),(.ofString "_law_OPS",.ref 396),(.ofString "_law_ASKS",.ref 403),(.ofString "_law_SETTING",.ref 410),(.ofString "_law_STORES",.ref 417),(.ofString "_law_WORD",.int 4294967296 927),(.ofString "_law_draw",.ref 424),(.ofString "_law_place",.ref 431),(.ofString "_law_label",.ref 438),(.ofString "_law_pair",.ref 445),(.ofString "_law_through",.ref 452),(.ofString "_law_over",.ref 459),(.ofString "_law_item",.ref 466),(.ofString "_law_end",.ref 473),(.ofString "_law_text",.ref 480),(.ofString "_law_number",.ref 487),(.ofString "_law_read",.ref 494),(.ofString "_law_signed",.ref 501),(.ofString "_law_did",.ref 508),(.ofString "_law_goes",.ref 515),(.ofString "_law_spot",.ref 522),(.ofString "_law_get",.ref 527),(.ofString "_law_plain",.ref 534),(.ofString "_law_run",.ref 539),(.ofString "_law_kind",.ref 546),(.ofString "_law_behind",.ref 553),(.ofString "_law_is_jump",.ref 560),(.ofString "_law_setter",.ref 567),(.ofString "_law_brings",.ref 574),(.ofString "_law_twice",.ref 581),(.ofString "_law_leads",.ref 588),(.ofString "_law_is_led",.ref 595),(.ofString "_law_is_idle",.ref 602),(.ofString "_law_goal_is_right",.ref 609),(.ofString "_law_is_neat",.ref 614),(.ofString "law",.ref 619)]
def kL:List Str:=rA.dropLast.map (λO=>O.1)
def pk:List Str:=fo.a.drop 1
noncomputable def sU(z:Params)(L:List (List Nat×Tok×Value))(n:Nat):Obj:=⟨.type "dict",none,.dict (L.map λx=>ar z ⟨x.1.toArray⟩ x.2.1 x.2.2).toArray n,#[]⟩
noncomputable def AC:List (List Nat×Tok×Value):=[([102,112],231,.int 8 232),([122,101,114,111],189,.int 0 235),([120,48],241,.int 0 235),([114,97],190,.int 1 243),([120,49],249,.int 1 243),([115,112],191,.int 2 251),([120,50],257,.int 2 251),([103,112],192,.int 3 259),([120,51],265,.int 3 259),([116,112],193,.int 4 267),([120,52],273,.int 4 267),([116,48],194,.int 5 275),([120,53],281,.int 5 275),([116,49],195,.int 6 283),([120,54],289,.int 6 283),([116,50],196,.int 7 291),([120,55],297,.int 7 291),([115,48],197,.int 8 299),([120,56],305,.int 8 299),([115,49],198,.int 9 307),([120,57],313,.int 9 307),([97,48],199,.int 10 315),([120,49,48],321,.int 10 315),([97,49],200,.int 11 323),([120,49,49],329,.int 11 323),([97,50],201,.int 12 331),([120,49,50],337,.int 12 331),([97,51],202,.int 13 339),([120,49,51],345,.int 13 339),([97,52],203,.int 14 347),([120,49,52],353,.int 14 347),([97,53],204,.int 15 355),([120,49,53],361,.int 15 355),([97,54],205,.int 16 363),([120,49,54],369,.int 16 363),([97,55],206,.int 17 371),([120,49,55],377,.int 17 371),([115,50],207,.int 18 379),([120,49,56],385,.int 18 379),([115,51],208,.int 19 387),([120,49,57],393,.int 19 387),([115,52],209,.int 20 395),([120,50,48],401,.int 20 395),([115,53],210,.int 21 403),([120,50,49],409,.int 21 403),([115,54],211,.int 22 411),([120,50,50],417,.int 22 411),([115,55],212,.int 23 419),([120,50,51],425,.int 23 419),([115,56],213,.int 24 427),([120,50,52],433,.int 24 427),([115,57],214,.int 25 435),([120,50,53],441,.int 25 435),([115,49,48],215,.int 26 443),([120,50,54],449,.int 26 443),([115,49,49],216,.int 27 451),([120,50,55],457,.int 27 451),([116,51],217,.int 28 459),([120,50,56],465,.int 28 459),([116,52],218,.int 29 467),([120,50,57],473,.int 29 467),([116,53],219,.int 30 475),([120,51,48],481,.int 30 475),([116,54],220,.int 31 483),([120,51,49],489,.int 31 483)]
noncomputable def AB:List (List Nat×Tok×Value):=[([98,101,113],503,.str "bne" 504),([98,110,101],505,.str "beq" 506),([98,108,116],507,.str "bge" 508),([98,103,101],509,.str "blt" 510),([98,108,116,117],511,.str "bgeu" 512),([98,103,101,117],513,.str "bltu" 514)]
noncomputable def AE:List (List Nat×Tok×Value):=[([122,101,114,111],869,.int 0 870),([120,48],871,.int 0 872),([114,97],873,.int 1 874),([115,112],875,.int 2 876),([116,48],877,.int 5 878),([120,53],879,.int 5 880),([116,49],881,.int 6 882),([115,49],883,.int 9 884),([97,48],885,.int 10 886)]
def pI(z:Params):Frag:=[(15,⟨.type "list",none,.seq #[.str "zero" 189,.str "ra" 190,.str "sp" 191,.str "gp" 192,.str "tp" 193,.str "t0" 194,.str "t1" 195,.str "t2" 196,.str "s0" 197,.str "s1" 198,.str "a0" 199,.str "a1" 200,.str "a2" 201,.str "a3" 202,.str "a4" 203,.str "a5" 204,.str "a6" 205,.str "a7" 206,.str "s2" 207,.str "s3" 208,.str "s4" 209,.str "s5" 210,.str "s6" 211,.str "s7" 212,.str "s8" 213,.str "s9" 214,.str "s10" 215,.str "s11" 216,.str "t3" 217,.str "t4" 218,.str "t5" 219,.str "t6" 220] 0,#[]⟩),(24,sU z AC 65),(164,sU z AB 6),(165,⟨.type "tuple",none,.seq #[.str "add" 522,.str "sub" 523,.str "sll" 524,.str "slt" 525,.str "sltu" 526,.str "xor" 527,.str "srl" 528,.str "sra" 529,.str "or" 530,.str "and" 531,.str "mul" 532,.str "mulh" 533,.str "mulhsu" 534,.str "mulhu" 535,.str "div" 536,.str "divu" 537,.str "rem" 538,.str "remu" 539,.str "slti" 540,.str "sltiu" 541,.str "xori" 542,.str "ori" 543,.str "andi" 544,.str "slli" 545,.str "srli" 546,.str "srai" 547,.str "lb" 548,.str "lh" 549,.str "lw" 550,.str "lbu" 551,.str "lhu" 552] 0,#[]⟩),(166,⟨.type "tuple",none,.seq #[.str "sb" 554,.str "sh" 555,.str "sw" 556] 0,#[]⟩),(167,⟨.type "tuple",none,.seq #[.str ".text" 563,.str ".data" 564,.str ".rodata" 565,.str ".bss" 566,.str ".section" 567] 0,#[]⟩),(180,⟨.type "code",none,.fields #[.str "__init__" 581,.str "Line.__init__" 582,.str "/claim/cut.py" 583,.int 22 0,.int 5 0,.int 0 0,.int 0 0,.int 3 0,.ref 175,.bool true,.int 181 0,.ref 176,.none,.ref 177,.ref 178,.ref 179,.int 589 0,.int 22 0,.str "/claim/cut.py" 590],#[]⟩),(181,⟨.type "function",none,.func (methDef "__init__" "Line.__init__" kG.params kG.body kG.scope (.str "corecc.peephole" 499) (.ref 180) .none),#[]⟩),(183,⟨.type "dict",none,.dict #[ar z "__module__" 576 (.str "corecc.peephole" 499),ar z "__firstlineno__" 580 (.int 20 579),ar z "__init__" 591 (.ref 181),ar z "__static_attributes__" 596 (.ref 182),ar z "__dict__" 598 (.ref 185),ar z "__weakref__" 600 (.ref 186),ar z "__doc__" 601 (.none)] 4,#[]⟩),(184,⟨.type "type",none,.cls {name:="Line",bases:=[.type "object"],mro:=[.ref 184,.type "object"],ns:=183,qualname:="Line"},#[none,none,some (.str "Line" 569),some (.str "Line" 577),some (.builtin "object.__new__"),some (.bool true)]⟩),(185,⟨.type "getset_descriptor",none,.fields #[.str "__dict__" 597,.ref 184,.builtin "function.__dict__",.builtin "function.__dict__#set"],#[]⟩),(186,⟨.type "getset_descriptor",none,.fields #[.str "__weakref__" 599,.ref 184,.builtin "ExceptionGroup.__weakref__",.none],#[]⟩),(382,sU z AE 9)]
noncomputable def Dz:List Nat:=[15,24,164,165,166,167,180,181,183,184,185,186,382]
noncomputable def yU:List Str:=[.ofString "len",.ofString "min",.ofString "int",.ofString "str",.ofString "range",.ofString "enumerate",.ofString "sum"]
noncomputable def yW:List (Option Value):=[some (.builtin "len"),some (.builtin "min"),some (.type "int"),some (.type "str"),some (.type "range"),some (.type "enumerate"),some (.builtin "sum")]
noncomputable def FZ(n:Str):Option FnShape:=match bO.theDef n with|some (a,b,z)=>some (DefRec.shape ⟨n,a,b,z,default⟩)|none=>none
def lS(s:Shared):=(pk.map (s.heap.shapeAt mainGlobals),rA.map (λx=>s.heap.nsMap mainGlobals x.1),yU.map (λn=>(s.heap.nsMap mainGlobals n,s.heap.nsMap builtinsNs n)),Dz.map (λa=>s.heap.get? a),(s.heap.get? sysModules).isSome&&s.heap.isNs mainGlobals&&s.heap.isNs builtinsNs)
def lR(w:World):=(pk.map FZ,rA.map (λx=>some x.2),yW.map (λv=>((none:Option Value),v)),(pI w.params).map (λx=>some x.2),true)
noncomputable abbrev or:=PySem.W.Fast.tw10110043849684766642
noncomputable abbrev yx:=PySem.W.Fast.tw4187177175401517315
noncomputable abbrev oq:Pos:=⟨537,0,553,51⟩
noncomputable abbrev ix(w:World)(b:Bool):World:=w.withFollow "special-get-raises" b
noncomputable def rf(h:Heap)(z:Shared):Bool:=staticsOk (importedModules bO.main.body) h z.heap&&namesBound bO z.heap&&gensDone z&&laidKept h z.heap
noncomputable abbrev hd:Frame:=topFrame default
set_option maxHeartbeats 0 in theorem Ql w z:or ki bO (ix w false) 11 (some (.ref 6)) 1 6300 (lO (ix w false) z) (piecesOf rU hJ dH default [hd])=some (.next,oB (ix w false) z,dH,pE):=by kernel_rfl
set_option maxHeartbeats 0 in theorem Qm w z:or ki bO (ix w true) 11 (some (.ref 6)) 1 6300 (lO (ix w true) z) (piecesOf rU hJ dH default [hd])=some (.next,oB (ix w true) z,dH,pE):=by kernel_rfl
set_option maxHeartbeats 0 in theorem Qn w z:or ki bO w 11 (some (.ref 6)) 1 1400 (oB w z) (piecesOf xl hJ dH pE [hd])=some (.next,lP w z,dH,mB):=by kernel_rfl
set_option maxHeartbeats 0 in theorem Wj w z:(or ki bO (ix w false) 11 (some (.ref 6)) 1 1500 (lP (ix w false) z) (piecesOf ot hJ dH mB [hd])).map (λx=>(x.1,x.2.2,rf (boot_heap (ix w false).params) x.2.1.abs,yx kf kL (importedModules bO.main.body) (λO=>true) true x.2.1.abs,lS x.2.1.abs))=some (.next,(dH,oq),true,openGood kf kL,lR (ix w false)):=by kernel_rfl
set_option maxHeartbeats 0 in theorem Wk w z:(or ki bO (ix w true) 11 (some (.ref 6)) 1 1500 (lP (ix w true) z) (piecesOf ot hJ dH mB [hd])).map (λx=>(x.1,x.2.2,rf (boot_heap (ix w true).params) x.2.1.abs,yx kf kL (importedModules bO.main.body) (λO=>true) true x.2.1.abs,lS x.2.1.abs))=some (.next,(dH,oq),true,openGood kf kL,lR (ix w true)):=by kernel_rfl
theorem oo:treeTable=ki:=PySem.W.Fast.te14364793385576792824
theorem vg:segRunT=or:=PySem.W.Fast.te10110043849684766642
theorem N5:@openSeen=@PySem.W.Fast.tw4187177175401517315:=PySem.W.Fast.te4187177175401517315
noncomputable abbrev F2:=PySem.W.Fast.tw15667345088766844465
theorem QP:topGo=F2:=PySem.W.Fast.te15667345088766844465
noncomputable abbrev FP:=PySem.W.Fast.tw11892475500146522536
theorem Js:denote=FP:=PySem.W.Fast.te11892475500146522536
set_option maxHeartbeats 0 in theorem Pz w z:F2 ki bO w 11 (some (.ref 6)) 12 ⟨boot_heap w.params,#[],boot_drawn,boot_toks,z⟩ (topStub bO)=some ((lO w z).abs,⟨FP ki dH,dH,default,[hd]⟩):=by kernel_rfl
theorem Hr w z:segRun ki bO w 11 (some (.ref 6)) 1 1 (lO w z).abs (blockOf (behindTheImports bO) hJ dH default [hd])=some (.next,(lO w z).abs,dH,default):=by kernel_rfl
theorem R5 w s:topRun ki bO w 11 (some (.ref 6)) 3 s ⟨doneF .next,dH,oq,[hd]⟩=some s:=by obtain⟨a,b,c,d,e⟩:=s;kernel_rfl
theorem Qw w:∀z,segRun treeTable bO w 11 (some (.ref 6)) 1 6300 (lO w z).abs (piecesOf rU hJ dH default [hd])=some (.next,(oB w z).abs,dH,pE):=by
 refine byRow2 (P:=λw=>∀z,segRun treeTable bO w 11 (some (.ref 6)) 1 6300 (lO w z).abs (piecesOf rU hJ dH default [hd])=some (.next,(oB w z).abs,dH,pE)) "special-get-raises" (λw z=>?_) (λw z=>?_) w;. refine segRun_of (J vg ?_);exact J oo (Ql w z)
 . refine segRun_of (J vg ?_);exact J oo (Qm w z)
theorem Qx w z:segRun treeTable bO w 11 (some (.ref 6)) 1 1400 (oB w z).abs (piecesOf xl hJ dH pE [hd])=some (.next,(lP w z).abs,dH,mB):=by refine segRun_of (J vg ?_);exact J oo (Qn w z)
def ss(w:World)(s:Shared):Prop:=rf (boot_heap w.params) s=true/\openSeen kf kL (importedModules bO.main.body) (λO=>true) true s=openGood kf kL/\lS s=lR w
theorem EL{w}{z}(h:(or ki bO w 11 (some (.ref 6)) 1 1500 (lP w z) (piecesOf ot hJ dH mB [hd])).map (λx=>(x.1,x.2.2,rf (boot_heap w.params) x.2.1.abs,yx kf kL (importedModules bO.main.body) (λO=>true) true x.2.1.abs,lS x.2.1.abs))=some (.next,(dH,oq),true,openGood kf kL,lR w)):∃s,segRun treeTable bO w 11 (some (.ref 6)) 1 1500 (lP w z).abs (piecesOf ot hJ dH mB [hd])=some (.next,s,dH,oq)/\ss w s:=by
 obtain⟨⟨f,s,c,p⟩,q,y⟩:=fI.mp h;simp only [Prod.mk.injEq]at y;obtain⟨rfl,⟨rfl,rfl⟩,j,u,g⟩:=y;refine⟨s.abs,segRun_of ?_,j,?_,g⟩;. refine J vg (J oo ?_);exact q
 . exact J N5 u
theorem PT w:∀z,∃s,segRun treeTable bO w 11 (some (.ref 6)) 1 1500 (lP w z).abs (piecesOf ot hJ dH mB [hd])=some (.next,s,dH,oq)/\ss w s:=by
 refine byRow2 (P:=λw=>∀z,∃s,segRun treeTable bO w 11 (some (.ref 6)) 1 1500 (lP w z).abs (piecesOf ot hJ dH mB [hd])=some (.next,s,dH,oq)/\ss w s) "special-get-raises" (λw z=>?_) (λw z=>?_) w;. exact EL (Wj w z)
 . exact EL (Wk w z)
theorem Rp:behindTheImports bO=rU++(xl++(ot++[])):=by kernel_rfl
theorem O1 w z:∃s,topRun treeTable bO w 11 (some (.ref 6)) (12+(1+(6300+(1400+(1500+3))))) ⟨boot_heap w.params,#[],boot_drawn,boot_toks,z⟩ (topStub bO)=some s/\ss w s:=by
 refine D (PT w z) λs y q=>?_;refine⟨s,?_,q⟩;have j:topGo treeTable bO w 11 (some (.ref 6)) 12 ⟨boot_heap w.params,#[],boot_drawn,boot_toks,z⟩ (topStub bO)=some ((lO w z).abs,⟨denote treeTable dH,dH,default,[hd]⟩):=by refine J QP (J oo ?_);exact J Js (Pz w z)
 refine go_top j (piece_block (b:=behindTheImports bO) (env:=hJ) (by exact J oo (Hr w z)) ?_);refine J Rp (piece_app (Qw w z) (piece_app (Qx w z) (piece_app y (piece_nil ?_))));exact J oo (R5 w s)
theorem Oc w:(fencedOpening treeTable bO w 20000).map (λs=>(s.heap,s.gens,s.drawn,s.toks))=some (boot_heap w.params,Array.mk [],boot_drawn,boot_toks):=boot_open (by kernel_rfl) rfl (λs=>by kernel_rfl) w
theorem P'(w:World):((boot_heap w.params).isNs mainGlobals&&((#[]:Array GenState).size==0),(boot_heap w.params).objs.size,(boot_heap w.params).nsMap mainGlobals "__annotations__")=(true,11,some (.ref 6)):=by kernel_rfl
theorem MY:LeftO bO kf kL (λO=>true) lS lR 20000:=λw=>by
 refine D (fI.mp (Oc w)) λy e q=>?_;obtain⟨h,j,d,k,z⟩:=y;obtain⟨rfl,rfl,rfl,rfl⟩:h=boot_heap w.params/\j=#[]/\d=boot_drawn/\k=boot_toks:=by simpa using q
 obtain⟨u,g,o⟩:_/\_/\_:=by simpa only [Prod.mk.injEq]using P' w
 refine vR (O1 w z) λs r c f m=>?_;have r:=topRun_mono (20000-(12+(1+(6300+(1400+(1500+3)))))) _ _ _ _ r;rw [show(12+(1+(6300+(1400+(1500+3))))+(20000-(12+(1+(6300+(1400+(1500+3)))))))=20000 from rfl]at r;have t:topFrom treeTable bO w 20000 ⟨boot_heap w.params,#[],boot_drawn,boot_toks,z⟩=some s:=by unfold topFrom;dsimp only;refine J u (J g ?_);refine J o (J r ?_);refine(?_:(match rf (boot_heap w.params) s with|true=>_|false=>_)=_);exact J c rfl
 unfold openEnds;refine J e (?_:(topFrom treeTable bO w 20000 _).map _=_);exact J t (aJ some (Prod.ext f m))
set_option maxHeartbeats 0 in theorem RL:PySem.W.Fast.tw9446332074065402090 PySem.Challenge.rw_nm0024_01=true:=by
 unfold PySem.W.Fast.tw9446332074065402090 PySem.W.Fast.tw17960256430627541270 PySem.W.Fast.tw2436336058641802641 PySem.W.Fast.tw12908688711261696721;simp only [Bool.and_eq_true];repeat' apply And.intro
 all_goals decide+kernel
theorem RK:PySem.Challenge.rw_nm0024_01.wellSaid=true:=by rw [show OpenLaw.wellSaid=PySem.W.Fast.tw9446332074065402090 from PySem.W.Fast.te9446332074065402090];exact RL
structure gC(w:World)(h:Heap)(z q:Str->Option Value):Prop where
g:h.Ns mainGlobals z
i:h.Ns builtinsNs q
k:∀n∈pk,∃d:DefRec,bO.theDef n=some (d.params,d.body,d.scope)/\∃a o t u y,z n=some (.ref a)/\h.get? a=some o/\o.data=.func (docDef n d.params d.body d.scope t u y)/\h.CodeRec u n
b:∀x∈rA,z x.1=some x.2
f:∀x∈yU.zip yW,z x.1=none/\q x.1=x.2
c:(pI w.params).In h
l:∃o,h.get? sysModules=some o
theorem gC.p{w}{q u}(x:gC w h q u)(z:∀t o,h.get? t=some o->r.get? t=some o):gC w r q u:=⟨x.g.keeps z,x.i.keeps z,λn v=>(x.k n v).imp λd h=>⟨h.1,ja h.2 λa o s Z y h=>(pe a o s Z y ⟨h.1,z _ _ h.2.1,h.2.2.1,h.2.2.2.keeps z⟩)⟩,x.b,x.f,x.c.keeps z,x.l.imp λo Y=>z _ _ Y⟩
theorem rz{y q:Type}{f g:y->q}:∀{l:List y},l.map f=l.map g->∀x∈l,f x=g x
|a::l,h,x,z=>by
 rw [dU,dU,qn]at h;rcases kn.mp z with rfl|z;. exact h.1
 . exact rz h.2 x z
theorem Eb{j q u:Type}{f}{g:q->u}:∀{l:List j}{y:List q},l.map f=y.map g->∀x∈l.zip y,f x.1=g x.2
|a::l,b::y,h,x,z=>by
 rw [dU,dU,qn]at h;rw [List.zip_cons_cons]at z;refine dF z ?_ λz=>?_;. exact h.1
 . exact Eb h.2 x z|[],_,_,_,z=>(fY z).elim|_::_,[],_,_,z=>(fY z).elim
theorem Ls{w}(e:lS s=lR w):∃g d,gC w s.heap g d:=by
 unfold lS lR at e;simp only [Prod.mk.injEq,Bool.and_eq_true]at e;refine vP e λc f m p t r=>?_;refine ae t λv k=>?_;refine(ax (s.heap.nsMap mainGlobals) (s.heap.nsMap builtinsNs) ⟨.of_isNs k,.of_isNs r,λn j=>?_,λx z=>rz f x z,λx z=>?_,Frag.in_of (as:=Dz) (by rfl) p,Option.isSome_iff_exists.mp v⟩)
 . have h:=rz c n j
   unfold FZ at h;induction y:bO.theDef n with|none=>
rw [y]at h;exfalso;have:(pk.all λn=>(bO.theDef n).isSome)=true:=by decide+kernel
have:=cs.mp this n j;rw [y]at this;exact am this|some x=>obtain⟨a,b,u⟩:=x;rw [y]at h;refine ja (Heap.hasFn_of_shape (d:=⟨n,a,b,u,default⟩) h) λi o l Z q Y=>?_;refine kS Y λQ J U G=>?_;exact⟨⟨n,a,b,u,default⟩,rfl,i,o,l,Z,q,Q,J,U,G⟩
 . have h:=Eb m x z;exact⟨aJ Prod.fst h,aJ Prod.snd h⟩
noncomputable abbrev rs:OpenRow:=PySem.Challenge.rw_nm0024_01.row
def MK:DefRec:=match defOf kf "law"with|some x=>x.1|none=>⟨"",default,[],default,default⟩
abbrev GY(w:World)(h:Heap):Prop:=∃z y,gC w h z y
def Gv(i:Int)(v:Value):Bool:=match v with|.none=>false|.ellipsis=>false|.notImplemented=>false|.bool _=>false|.int j _=>i==j|.float ..=>false|.str ..=>false|.bytes ..=>false|.type _=>false|.builtin _=>false|.ref _=>false
def Gw(l:B)(v:Value):Bool:=match v with|.none=>false|.ellipsis=>false|.notImplemented=>false|.bool _=>false|.int ..=>false|.float ..=>false|.str s _=>s.cps.toList==l&&Nat.ble l.length ak|.bytes ..=>false|.type _=>false|.builtin _=>false|.ref _=>false
def tp(a:aD)(v:Value):Bool:=match a with|.c=>false|.d _=>false|.b i=>Gv i v|.a s=>Gw s v
theorem yI{v}(h:tp a v=true):eK a v:=by induction a with
|b i=>induction v with|int j t=>exact⟨t,by exact J (eq_of_beq h) rfl⟩|_=>exact am h
|a l=>induction v with|str s t=>refine ae ((fy _ _).mp h) λz y=>?_;exact⟨t,by exact J (aN (eq_of_beq z)) rfl,ex y⟩|_=>exact am h
|_=>exact am h
noncomputable def tt:List V->List Value->Bool|[],[]=>true|.f a::z,v::y=>tp a v&&tt z y|_,_=>false
section
variable{z:Addr}
theorem Bj{q}:∀{y:List Value},tt q y=true->be j w z g o q y:=by induction q with
|nil=>intro y h;induction y using List.casesOn with|nil=>rfl|cons v y=>exact am h
|cons x q u=>intro y h;induction x using V.casesOn with
|f a=>induction y using List.casesOn with|nil=>exact am h|cons v y=>have h:=(fy _ _).mp h;exact(ax v y ⟨rfl,yI h.1,u h.2⟩)
|_=>exact am h
noncomputable def yq:List (aD×aD)->List (List Nat×Tok×Value)->Bool|[],[]=>true|(.a k,a)::d,(t,_,v)::L=>(k==t&&Nat.ble k.length ak)&&(tp a v&&yq d L)|_,_=>false
noncomputable def zS(y:Params)(L:List (List Nat×Tok×Value)):List DictEntry:=L.map λx=>ar y ⟨x.1.toArray⟩ x.2.1 x.2.2
theorem Jl:∀{L:List (List Nat×Tok×Value)},yq d L=true->∃q:List (aD×Value),dX d q/\Pairs (eQ j w) (zS w.params L) q/\q.map (λO=>O.1)=d.map (λO=>O.1)/\∀e∈zS w.params L,∃k,(eQ j w).is k e.key=true/\e.hash=(eQ j w).hash k:=by induction d with
|nil=>intro L h;induction L using List.casesOn with|nil=>exact⟨[],rfl,.nil,rfl,λe g=>nomatch g⟩|cons x L=>exact am h
|cons x d f=>intro L h;obtain⟨k,a⟩:=x;induction k with
|a k=>induction L using List.casesOn with|nil=>exact am h|cons y L=>
 obtain⟨t,u,v⟩:=y;refine ae ((fy _ _).mp h) λo h=>?_;refine ae ((fy _ _).mp h) λm p=>?_;refine ae ((fy _ _).mp o) λo r=>?_;refine J (eq_of_beq o).symm (vR (f p) λq b i l n=>?_);have c:(eQ j w).is (.a k) (.str (Y k) u)=true:=ji (Y k);refine⟨(.a k,v)::q,(ax v q ⟨rfl,⟨yI m,ex r⟩,b⟩),.cons c rfl i,by simp [l],λe g=>?_⟩;refine dF g ?_ λg=>?_;. exact⟨.a k,c,rfl⟩
 . exact n e g
|_=>exact am h
theorem za{n}(h:yq d L=true)(j:gu d=true)(u:g a=some (sU w.params L n))(o:(a==sysModules)=false)(c:Nat.ble d.length (2*ak)=true):bs y w z g v (.e d) (.ref a):=by refine vR (Jl (j:=y) (w:=w) h) λq f m p t=>?_;refine(dK a _ q ⟨rfl,u,(ax ((zS w.params L).toArray) n ⟨⟨rfl,rfl,rfl⟩,rfl,λe r=>t e (by simpa using r),by simpa using m,by exact J p (DX j)⟩),f,o,ex c⟩)
theorem M6{y}{n}(h:tt y q=true)(u:g a=some (fq q n))(o:Nat.ble y.length (2*ak)=true):bs j w z g d (.d y) (.ref a):=by exact(dK a q n ⟨rfl,u,Bj h,ex o⟩)
theorem wU{y}{n}(h:tt y q=true)(u:g a=some (kQ q n))(o:Nat.ble y.length (2*ak)=true):bs j w z g d (.g y) (.ref a):=by exact(dK a q n ⟨rfl,u,Bj h,ex o⟩)
theorem s_{v}(h:tp a v=true):bs y w z q j (.f a) v:=by exact yI h
end
theorem AL z:oT (pI z) 184 181 where
d:=λf y=>by kernel_rfl
b:=by kernel_rfl
a:=λf y=>by
 rcases f with _|_|_|_|f;. kernel_rfl
 . kernel_rfl
 . kernel_rfl
 . kernel_rfl
 . lia
h:=by kernel_rfl
e:=by kernel_rfl
c:=by kernel_rfl
j:=by kernel_rfl
i:=by kernel_rfl
g:=by kernel_rfl
def jq(z:Str->Option Value)(k:Nat):Addr:=match z (bK fo.a k)with|some (.ref a)=>a|_=>0
theorem gC.e(u:gC w h r x){n}(v:n∈pk):∃(a:Addr)(d:DefRec),r n=some (.ref a)/\bO.theDef n=some (d.params,d.body,d.scope)/\∃o q y z,h.get? a=some o/\o.data=.func (docDef n d.params d.body d.scope q y z)/\h.CodeRec y n:=D (u.k n v) λd s t=>ja t λa o q y z h=>(ax a d ⟨h.1,s,o,q,y,z,h.2⟩)
theorem Ah(z:k<fo.a.length)(y:k≠0):bK fo.a k∈pk:=by have e:fo.a.length=66:=rfl;obtain⟨j,rfl⟩:∃j,k=j+1:=⟨k-1,by lia⟩;refine cq (i:=j) ?_;refine J ne ?_;refine J (kq 1 j) ?_;unfold bK;refine J hY ?_;refine J (cH z) ?_;rfl
theorem gC.j(q:gC w h z r)(u:y<fo.a.length):z (bK fo.a y)=some (.ref (jq z y)):=by
 unfold jq;by_cases o:y=0;. clear u;refine J o ?_;have:z (bK fo.a 0)=some (.ref 184):=q.b (.ofString "Line",.ref 184) (by exact cq (i:=11) rfl);exact J this rfl
 . refine bg (q.e (Ah u o)) λa d t O=>?_;exact J t rfl
theorem gC.m(d:gC w h t Q):∀u v,aj u=some v->∃r,t (bK fo.b u)=some r/\bs n w 184 (λa=>h.get? a) [] v r:=by
 intro u v z;have y:∀(s:Nat)(x:Str×Value),rA[s]?=some x->t x.1=some x.2:=λs x Z=>d.b x (cq Z);have q:∀(a:Addr)(o:Obj),(pI w.params).lookup a=some o->h.get? a=some o:=d.c;have Y:u<11:=by have:=(bo.mp z).1;exact this
 rcases u with _|_|_|_|_|_|_|_|_|_|_|u;. exact J (ag z).symm ⟨_,y 0 _ rfl,M6 (by decide+kernel) (q 15 _ rfl) (by decide+kernel)⟩
 . exact J (ag z).symm ⟨_,y 2 _ rfl,za (L:=AC) (n:=65) (by decide+kernel) (by decide+kernel) (q 24 _ rfl) (by decide+kernel) (by decide+kernel)⟩
 . refine J (ag z).symm ?_;have h:=y 4 _ rfl;exact⟨_,h,s_ (by decide+kernel)⟩
 . exact J (ag z).symm ⟨_,y 5 _ rfl,za (L:=AB) (n:=6) (by decide+kernel) (by decide+kernel) (q 164 _ rfl) (by decide+kernel) (by decide+kernel)⟩
 . exact J (ag z).symm ⟨_,y 6 _ rfl,wU (by decide+kernel) (q 165 _ rfl) (by decide+kernel)⟩
 . exact J (ag z).symm ⟨_,y 7 _ rfl,wU (by decide+kernel) (q 166 _ rfl) (by decide+kernel)⟩
 . refine J (ag z).symm ?_;have h:=y 8 _ rfl;exact⟨_,h,s_ (by decide+kernel)⟩
 . refine J (ag z).symm ?_;have h:=y 9 _ rfl;exact⟨_,h,s_ (by decide+kernel)⟩
 . exact J (ag z).symm ⟨_,y 10 _ rfl,wU (by decide+kernel) (q 167 _ rfl) (by decide+kernel)⟩
 . exact J (ag z).symm ⟨_,y 41 _ rfl,za (L:=AE) (n:=9) (by decide+kernel) (by decide+kernel) (q 382 _ rfl) (by decide+kernel) (by decide+kernel)⟩
 . refine J (ag z).symm ?_;have h:=y 47 _ rfl;exact⟨_,h,s_ (by decide+kernel)⟩
 . lia
def pl:List (Nat×bn):=(List.range 66).filterMap λk=>(hG[k]?).join.map λf=>(k,f)
def DC(x:Nat×bn)(z:Scope):Bool:=kO fo x.1 z x.2.b x.2.c&&((x.2.b.take x.2.a).all λn=>decide (z.names.lookup n=some .local))&&!z.isCoroutine&&!z.isGenerator&&decide (z.kind=.function)&&z.names.all (λn=>decide (n.2≠.cell))
theorem JZ:(pl.all λx=>decide (x.2.d=bK fo.a x.1)&&decide x.2.b.Nodup&&Nat.ble x.2.a x.2.b.length&&Nat.ble x.2.a 6&&(match bO.theDef x.2.d with|some (_,_,z)=>DC x z|none=>false))=true:=by decide+kernel
theorem JX:pl.map (λx=>(bO.theDef x.2.d).map (λO=>O.2.1))=pl.map (λx=>some (ip fo x.2.b x.2.c)):=by kernel_rfl
theorem JW y q j u g w o c z:pl.map (λx=>(bO.theDef x.2.d).map λd=>bindArgs (docDef x.2.d d.1 d.2.1 d.2.2 o c z) ⟨[y,q,j,u,g,w].take x.2.a,[]⟩)=pl.map (λx=>some (pure ((x.2.b.take x.2.a).zip ([y,q,j,u,g,w].take x.2.a)))):=by kernel_rfl
theorem R3 n(y:n<=6)(z:List Value)(h:z.length=n):∃q j u w o m,z=[q,j,u,w,o,m].take n:=by
 subst h;rcases z with _|⟨a,_|⟨b,_|⟨c,_|⟨d,_|⟨e,_|⟨f,_|⟨g,l⟩⟩⟩⟩⟩⟩⟩;. exact(mP .none .none .none .none .none .none rfl)
 . exact(mP a .none .none .none .none .none rfl)
 . exact(mP a b .none .none .none .none rfl)
 . exact(mP a b c .none .none .none rfl)
 . exact(mP a b c d .none .none rfl)
 . exact(mP a b c d e .none rfl)
 . exact(mP a b c d e f rfl)
 . simp at y
theorem JY(e:hG[k]?=some (some f)):(k,f)∈pl:=by refine J (propext List.mem_filterMap) ⟨k,fJ.mpr ?_,by refine J e ?_;rfl⟩;exact((bo.mp e).1)
noncomputable def Ll(i j:Nat):Pos:=([[bh 23 8 12,bh 23 8 17,bh 23 20 24,bh 23 8 24],[bh 24 8 12,bh 24 8 17,bh 24 20 24,bh 24 8 24],[bh 25 8 12,bh 25 8 17,bh 25 20 24,bh 25 8 24],[bh 26 8 12,bh 26 8 18,bh 26 21 26,bh 26 8 26]].getD i []).getD j default
theorem RP(x:gC w h.d m L)(e:hG[k]?=some (some f)):qj h fo k f (jq m k):=by
 have g:=JY e;have p:=cs.mp JZ _ g;simp only [Bool.and_eq_true,decide_eq_true_eq]at p;obtain⟨⟨⟨⟨t,Z⟩,Y⟩,Q⟩,y⟩:=p;have r:k<fo.a.length:=(bo.mp e).1;have J:k≠0:=by clear r t y g;rintro rfl;cases e
 obtain⟨a,d,v,c,o,b,i,q,U,l,n⟩:=x.e (Ah r J);have G:jq m k=a:=by unfold jq;rw [v]
 rw [<-t]at v c l n;have s:=rz JX _ g;rw [c]at s y;have z:d.body=ip fo f.b f.c:=ag s;unfold DC at y;simp only [Bool.and_eq_true,decide_eq_true_eq,Bool.not_eq_true',List.all_eq_true]at y;obtain⟨⟨⟨⟨⟨W,O⟩,D⟩,C⟩,F⟩,M⟩:=y;refine⟨⟨d.scope,o,d.params,b,i,q,G▸U,z▸l,n,λj P=>?_,W,O,D,C,F,M⟩,Z,ex Y⟩;obtain⟨T,R,V,K,B,E,rfl⟩:=R3 _ (ex Q) j P;have u:=rz (JW T R V K B E b i q) _ g;rw [c]at u;have:=ag u;rw [z]at this;exact this
theorem Lk(y:gC w h j u):ta h 181:=by
 have z:∀(a:Addr)(o:Obj),(pI w.params).lookup a=some o->h.get? a=some o:=y.c;refine⟨kG.scope,_,kG.params,.str "corecc.peephole" 499,.ref 180,.none,Ll,z 181 _ rfl,?_,(nO 180 _ _ _ ⟨rfl,z 180 _ rfl,rfl,rfl⟩),?_,?_,?_,?_,?_,?_⟩;. kernel_rfl
 . intro x a b c d;kernel_rfl
 . refine⟨by decide+kernel,λi g=>?_⟩;rcases i with _|_|_|_|i;. decide+kernel
   . decide+kernel
   . decide+kernel
   . decide+kernel
   . lia
 . decide+kernel
 . decide+kernel
 . decide+kernel
 . have:(kG.scope.names.all λn=>decide (n.2≠.cell))=true:=by decide+kernel
   intro x q;exact bt (cs.mp this x q)
noncomputable def et(a b:Nat):Pos:=⟨391,a,391,b⟩
def FR(i:Nat):Pos:=([et 16 22,et 16 26,et 28 30,et 33 37,et 28 37,et 41 50,et 27 50,et 53 55,et 58 62,et 53 62,et 66 67,et 52 67,et 70 73,et 52 73,et 16 74,et 77 80,et 84 88,et 77 88,et 16 88,et 11 14,et 93 97,et 101 106,et 107 112,et 101 113,et 15 114,et 11 115,et 4 115]:List Pos).getD i default
noncomputable def CA:Scope:=match bO.theDef "_law_get"with|some (_,_,z)=>z|none=>default
noncomputable def Cz:Arguments:=match bO.theDef "_law_get"with|some (a,_,_)=>a|none=>default
theorem KZ:bO.theDef "_law_get"=some (Cz,qR FR,CA):=by kernel_rfl
theorem KS(z:gC w h y m):qW h y m (jq y my):=by
 obtain⟨a,d,p,q,o,t,r,j,v,u,g⟩:=z.e (n:=bK fo.a my) (Ah (by decide) (by decide));have k:jq y my=a:=by unfold jq;rw [p]
 have f:bK fo.a my="_law_get":=by kernel_rfl
 rw [f,KZ]at q;rw [f]at u g;simp only [Option.some.injEq,Prod.mk.injEq]at q;refine bk q λe i l=>?_;rw [<-e,<-i,<-l]at u;refine⟨⟨CA,o,Cz,t,r,j,FR,k▸v,u,g,λa b c=>by kernel_rfl,by kernel_rfl,by decide+kernel,by decide+kernel,by decide+kernel,by decide+kernel⟩,z.f (.ofString "sum",some (.builtin "sum")) ?_,⟨_,z.b (.ofString "_law_WORD",.int 4294967296 927) (cq (i:=47) rfl)⟩⟩;exact cq (i:=6) rfl
noncomputable abbrev sT(w:World)(h:Heap):bW:=⟨bO,w,184,h⟩
theorem ps(z:gC w h y q)(i:Nat){n}{v}(e:(yU.zip yW)[i]?=some (n,v)):y n=none/\q n=v:=z.f (n,v) (cq e)
theorem R7(z:gC w o u m):fm (sT w o) fo aj u m (jq u)where
d:=z.g;b:=z.i;j:=z.m;i:=λk y=>z.j y;e:=λb=>by induction b with|a=>exact ps z 0 rfl|d=>exact ps z 1 rfl|b=>exact ps z 2 rfl|c=>exact ps z 3 rfl
c:=ps z 4 rfl;g:=ps z 5 rfl;h:=λA E s x Z Y n f v Q y p q t r l a=>HV (AL w.params) z.c y p q t r l a
theorem RI(z:gC w y q u)(o:y.NoLimit):At (sT w y) (pI w.params) q u (jq q) 181 where
b:=R7 z;d:=z.l;a:=o;g:=AL w.params;e:=z.c;i:=Lk z;j:=by have:q (bK fo.a 0)=some (.ref 184):=z.b (.ofString "Line",.ref 184) (cq (i:=11) rfl);unfold jq;exact J this rfl
h:=KS z;c:=λk f m=>RP (h:=sT w y) z m
def Ap:Prop:=∀z:List Int,z.length<=63->∃y,iQ y 66 rB [.d (z.map λi=>.b i)] []=some (.h true,[])
theorem Lm:∀{z:List WData},WShape.hasItems [] z .int=true->∃y:List Int,z=y.map .int:=by intro q;induction q with|nil=>intro O;exact⟨[],rfl⟩|cons x z j=>intro h;have h:=(fy _ _).mp h;refine av (j h.2) λy u=>?_;refine J u ?_;cases x with|int i=>exact⟨i::y,rfl⟩|_=>exact nomatch h.1
theorem M5(h:WShape.has [] d (.list .int)=true):∃z:List Int,d=.list (z.map .int):=by cases d with|list q=>refine av (Lm ((lU _).symm.trans h)) λz y=>?_;exact J y ⟨z,rfl⟩|_=>exact am h
set_option tactic.hygienic true in theorem RW{c}{g}:∀(o:List Int){s d:Shared}{y:List Value},layAllW [] c k g (o.map .int) s=some (y,d)->(∀z w q j u,be z w q j u (o.map λi=>.b i) y):=by intro f;induction f with|nil=>intro s d y h;simp [layAllW]at h;refine ae h λm p=>?_;refine J m (J p ?_);intro z w q j u;rfl|cons i o t=>
 intro s d y h;rw [dU]at h;unfold layAllW layW at h;dsimp only at h;split at h;. rename_i r v;refine lv h ?_;intro z w q j u;exact J dU (ax _ r.1 ⟨rfl,⟨_,rfl⟩,t v z w q j u⟩)
 . exact C h
set_option tactic.hygienic true in theorem MN{d}{c}{y}{q:List Int}{s u}{g}(h:layAllW [] d c y [.list (q.map .int)] s=some (g,u)):∃a o,g=[.ref a]/\u.heap.get? a=some (fq o 0)/\∀z w f m p,be z w f m p (q.map λi=>.b i) o:=by
 unfold layAllW layW at h;split at h
 . rename_i x j;split at j;. rename_i r t;obtain rfl:=ag j;simp [layAllW]at h;refine ae h λv k=>?_;refine J v.symm ?_;subst k;exact(ax _ r.1 ⟨rfl,gj _ rfl,RW q t⟩)
   . exact C j
 . exact C h
theorem PA{z:List Int}(h:rs.toRowW.pre.holds [] {args:=[.list (z.map .int)]}=true):z.length<=63:=by
 have h:WTm.holds [] (.and (.not (.lt (.lit (.int 63)) (.len (.arg 0)))) (.lit (.bool true))) {args:=[.list (z.map .int)]}=true:=h;by_cases q:z.length<=63;. exact q
 . exfalso;have y:63<(z.length:Int):=cY.mpr (gA q);have e:less? (.int 63) (.int z.length)=some true:=by refine(?_:some (decide ((63:Int)<(z.length:Int)))=some true);exact J (em y) rfl
   simp [WTm.holds,WTm.value,e]at h
theorem Lr(q:Ap):PySem.Challenge.rw_nm0024_01.Holds:=by
 refine holds_law RK λj=>?_;refine⟨j,⟨[.list []],by decide+kernel,by decide+kernel⟩,open_anyG (r:=rs.toRowW) (q:=kf) (loose:=kL) (Xt:=λO=>true) (XP:=λO O=>True) (Yf:=lS) (Ya:=lR) (YP:=GY) (N:=20000) (run:=λf u=>PySem.call f u) (tree:=λu=>do match<-nsGet mainNs rs.name with|some f=>do ret (<-PySem.call f u)|none=>unsupported "claim.caller:no-such-global") MY (λw s e=>Ls e) (λw h R x k=>?_) (λO O=>trivial) (λO O O O O=>trivial) (λs O=>recFacts_nil rfl) rfl (by decide+kernel) ⟨rfl,rfl,rfl,rfl,rfl,by decide+kernel⟩ ⟨[.list []],by decide+kernel,by decide+kernel⟩ (λu w s m f Q E p V h=>bT (wpAny_nsGet p (by exact J V (bT (fx h (λO O x=>fa x) λO O x=>x))))) (λw s p G n K=>?_) λw U z m F G Y M u as g P L low=>?_⟩;. refine go x λm F x=>?_;exact(ax m F (x.p k))
 . obtain rfl:n=rs.name:=by have:(n∈([rs.name])):=K;simpa using this
   exact pinned_of_view (d:=MK) (kwd:=[]) p G (by kernel_rfl) (by kernel_rfl) (by kernel_rfl)
 . refine go Y λt B H=>?_;refine ae (pre_splitW g) λI N=>?_;refine bg (hasAllW_cons I) λd r S X=>?_;subst S;refine ae X λA h2=>?_;obtain rfl:r=[]:=by induction r using List.casesOn with|nil=>rfl|cons=>exact am h2
   refine av (M5 A) λv z9=>?_;subst z9;refine D (L.laid) λa0 T hl=>?_;refine bg (MN hl) λa us co cC=>?_;refine J co (ae cC λha QB=>?_);have y:v.length<=63:=PA N;refine av (q v y) λl Aa=>?_;have W:=RI H G.T.nolimit;refine⟨.ref (jq t rB),((λn=>Heap.Ns.agree G.T.g H.g n) _).trans (H.j (y:=rB) (by decide)),?_⟩;have e:nC aj (iQ l 65) l tF [.d (v.map λi=>.b i)] []=some (.h true,[]):=Aa;refine EJ (a1:=sT w z.heap) (z:=rB) W.b W.d W.a (λk hk=>zO W l 65 k hk) (W.c 65 tF rfl) (a2:=λa=>z.heap.get? a) (φ:=[]) (σ:=[]) ?_ ?_ e ⟨rfl,by decide,by decide⟩ (qm _) ?_;. exact⟨λO O e=>e,λO O e=>e,rfl,md,(λO h=>by cases h),(λi a c Z O=>C Z)⟩
   . refine(ax _ [] ⟨rfl,(dK a us 0 ⟨rfl,ha,QB _ _ _ _ _,?_⟩),rfl⟩);exact J (bU _) (ac y (by decide))
   . intro rv F' aq R tk ht S' x' r;have r:rv=.bool true:=by exact r
     exact J r (GoodW.toG ⟨.inl (dK (.bool true) (.bool true) [] ⟨rfl,λa1=>rfl,.bool _,by kernel_rfl,λO=>⟨md,λO h=>by cases h⟩⟩),λb o eb=>x'.k b o eb λi c Z O=>by simp at Z,rfl,L.gens⟩)
section
variable{j:Type}
abbrev bR(j:Type):=V->af->Option j
abbrev ew(j:Type):=Bool->af->Option j
abbrev hr(j:Type):=List V->af->Option j
abbrev hV(j:Type):=ao->af->Option j
noncomputable abbrev iz:=eM->ao->af->dc
abbrev kk(j:Type):=ao->af->bR j->Option j
abbrev ow(j:Type):=ao->af->ew j->Option j
abbrev ov(j:Type):=ao->af->hr j->Option j
abbrev Cs(j:Type):=V->ao->af->hV j->Option j
abbrev yz(j:Type):=List V->ao->af->hV j->Option j
noncomputable abbrev oN:=ao->af->iz->dc
def fD(Q:af)(k:bR j)(o:Option V):Option j:=@Option.rec V (λq=>Option j) none (λv=>k v Q) o
def gI(Q:af)(k:ew j)(o:Option Bool):Option j:=@Option.rec Bool (λq=>Option j) none (λv=>k v Q) o
noncomputable def il(k:bR j)(o:Option (V×af)):Option j:=@Option.rec (V×af) (λq=>Option j) none (λr=>k r.1 r.2) o
noncomputable def vC(k:List V->Option j)(o:Option (List V)):Option j:=@Option.rec (List V) (λq=>Option j) none k o
noncomputable def sl(k:af->Option j)(o:Option af):Option j:=@Option.rec af (λq=>Option j) none k o
noncomputable def vD(k:iz)(o:dc):dc:=@Option.rec (eM×ao×af) (λf=>dc) none (λq=>k q.1 q.2.1 q.2.2) o
noncomputable def sj(x:Option j)(b:Bool):Option j:=@Bool.rec (λq=>Option j) none x b
noncomputable def kv(b:Bool)(x q:Option j):Option j:=@Bool.rec (λo=>Option j) q x b
noncomputable def jG:V->Nat->Option V|.k q,f=>q[f]?|_,_=>none
def ro(f:oN)(k:iz):iz:=λq L Q=>@eM.rec (λo=>dc) (f L Q k) (k .c L Q) (λv=>k (.b v) L Q) q
noncomputable def wN(L:ao)(k:iz):V->af->dc|.f _,Q=>k .a L Q|_,_=>none
noncomputable def iM(d:ew j):bR j:=λx Q=>gI Q d (ev Q x)
noncomputable def ur(q:PySem.Operator)(x:V)(k:bR j):bR j:=λo Q=>fD Q k (cZ Q q x o)
def wL(q:PySem.Operator)(o:kk j)(L:ao)(k:bR j):bR j:=λx Q=>o L Q (ur q x k)
def we(k:bR j):bR j:=λx Q=>fD Q k (pG x)
noncomputable def LH(k:bR j):ew j:=λb Q=>k (.h !b) Q
def LG(k:bR j):bR j:=λx Q=>gI Q (LH k) (ev Q x)
noncomputable def LI(d:ew j):ew j:=λb Q=>d (!b) Q
def rn(q:kk j)(o:kk j)(L:ao)(k:bR j):ew j:=λt Q=>kv t (q L Q k) (o L Q k)
def CS(q:ow j)(o:ow j)(L:ao)(d:ew j):ew j:=λt Q=>kv t (q L Q d) (o L Q d)
noncomputable def us(k:bR j):ew j:=λb Q=>k (.h b) Q
noncomputable def rl(q:PySem.CmpOp)(x:V)(d:ew j):bR j:=λo Q=>gI Q d (bp Q q x o)
def rk(q:PySem.CmpOp)(o:kk j)(L:ao)(d:ew j):bR j:=λx Q=>o L Q (rl q x d)
def up(f:Nat)(k:bR j):bR j:=λx Q=>fD Q k (jG x f)
noncomputable def uu(x:V)(k:bR j):bR j:=λq Q=>fD Q k (a_ Q x q)
def ut(q:kk j)(L:ao)(k:bR j):bR j:=λx Q=>q L Q (uu x k)
noncomputable def uB(x:V)(l:List V)(k:bR j):hr j:=λh Q=>fD Q k (iV Q x l h)
def uA(x:V)(q:ov j)(L:ao)(k:bR j):hr j:=λl Q=>q L Q (uB x l k)
noncomputable def wg(q:ov j)(o:ov j)(L:ao)(k:bR j):bR j:=λx Q=>q L Q (uA x o L k)
def wd(q:Bool)(k:bR j):hr j:=λo Q=>il k (eU q (.d o) Q)
noncomputable def wl(k:bR j):hr j:=λq Q=>k (.g q) Q
def rH(z:dd)(f:Nat)(k:bR j):hr j:=λq Q=>il k (z f q Q)
noncomputable def uq(q:lM)(k:bR j):hr j:=λo Q=>fD Q k (f' Q q o)
def ux(q:hW)(x:V)(k:bR j):hr j:=λo Q=>il k (cN Q q x o)
def uw(q:hW)(o:ov j)(L:ao)(k:bR j):bR j:=λx Q=>sj (o L Q (ux q x k)) (ek Q q x)
noncomputable def wf(t:B)(q:B)(k:bR j):bR j:=λx Q=>fD Q k (mD x t q)
noncomputable def uv(x:V)(m:hr j):hr j:=λq Q=>m (x::q) Q
def wa(q:ov j)(L:ao)(m:hr j):bR j:=λx Q=>q L Q (uv x m)
def rG(o:Bool)(x:V)(q:kk j)(L:ao)(k:bR j):ew j:=λb Q=>@Bool.rec (λf=>Option j) (kv b (k x Q) (q L Q k)) (kv b (q L Q k) (k x Q)) o
noncomputable def wM(q:Bool)(o:kk j)(L:ao)(k:bR j):bR j:=λx Q=>gI Q (rG q x o L k) (ev Q x)
def nT(o:Bool)(q:ow j)(L:ao)(d:ew j):ew j:=λb Q=>@Bool.rec (λf=>Option j) (kv b (d true Q) (q L Q d)) (kv b (q L Q d) (d false Q)) o
noncomputable def wj(q:yz j)(h:List V)(n:hV j):hV j:=λL Q=>q h L Q n
noncomputable def wk(o:Nat)(f:yz j)(L:ao)(Q:af)(n:hV j):List V->Option j:=λq=>if q.length=o then f q L Q n else none
noncomputable def wi(L:ao)(n:hV j):af->Option j:=λQ=>n L Q
def uC(x:V)(v:V)(L:ao)(n:hV j):bR j:=λq Q=>sl (wi L n) (eY Q x q v)
def wh(q:kk j)(v:V)(L:ao)(n:hV j):bR j:=λx Q=>q L Q (uC x v L n)
noncomputable def uy(s:iz):hV (eM×ao×af):=λL Q=>s .a L Q
def wK(q:Cs (eM×ao×af))(L:ao)(s:iz):bR (eM×ao×af):=λv Q=>q v L Q (uy s)
def rm(q:oN)(o:oN)(L:ao)(s:iz):ew (eM×ao×af):=λt Q=>kv t (q L Q s) (o L Q s)
def uz(L:ao)(s:iz):bR (eM×ao×af):=λv Q=>s (.b v) L Q
def pc:bR (V×af):=λv Q=>some (v,Q)
def rp:ew (Bool×af):=λv Q=>some (v,Q)
def wc:hr (List V×af):=λv Q=>some (v,Q)
def wb:hV (ao×af):=λv Q=>some (v,Q)
noncomputable def hN:iz:=λq L Q=>some (q,L,Q)
noncomputable def CR(q:ao×af->Option j):hV j:=λL Q=>q (L,Q)
def mL(G:ds)(z:dd)(e:aV):ow j:=λL Q k=>((aT G z e L).2 Q).bind λr=>k r.1 r.2
mutual noncomputable def aM(G:ds)(z:dd):aV->kk j|.f c _ _=>λY Q k=>k c.e Q|.c Z _=>λL Q k=>@Option.rec V (λY=>Option j) none (λv=>k v Q) (dR L Z)|.s Z _=>λY Q k=>@Option.rec V (λY=>Option j) none (λv=>k v Q) (G Z)|.k J q _=>im G z J q|.n U a b _=>λL Q k=>aM G z a L Q (wL U (aM G z b) L k)|.r a _=>λL Q k=>aM G z a L Q (we k)|.h a _=>λL Q k=>aM G z a L Q (LG k)|.b c a b _=>λL Q k=>el G z c L Q (rn (aM G z a) (aM G z b) L k)|.i U a b _=>λL Q k=>aM G z a L Q (rk U (aM G z b) L (us k))|.o a f _=>λL Q k=>aM G z a L Q (up f k)|.t a Z _=>λL Q k=>aM G z a L Q (ut (aM G z Z) L k)|.a a i T _ _=>λL Q k=>aM G z a L Q (wg (cW G z i) (cW G z T) L k)|.q r q _=>λL Q k=>cW G z q L Q (wd r k)|.m q _ _=>λL Q k=>cW G z q L Q (wl k)|.e r l _=>λY Q k=>if gu (eR l)=true then il k (eU r (.e (eR l)) Q)else none|.d r C x R W K B E F I p=>λL Q k=>il k ((aT G z (.d r C x R W K B E F I p) L).1 Q)|.g f q _ _=>λL Q k=>cW G z q L Q (rH z f k)|.p b q _ _=>λL Q k=>cW G z q L Q (uq b k)|.j M a q _ _=>λL Q k=>aM G z a L Q (uw M (cW G z q) L k)|.l a x N _ _ _ _ _ _=>λL Q k=>aM G z a L Q (wf x N k)noncomputable def el(G:ds)(z:dd):aV->ow j|.k J q _=>gJ G z J q|.h a _=>λL Q k=>el G z a L Q (LI k)|.b c a b _=>λL Q k=>el G z c L Q (CS (el G z a) (el G z b) L k)|.i U a b _=>λL Q k=>aM G z a L Q (rk U (aM G z b) L k)|.f c _ _=>λY Q k=>gI Q k (ev Q c.e)|.c Z _=>λL Q k=>@Option.rec V (λY=>Option j) none (λv=>iM k v Q) (dR L Z)|.s Z _=>λY Q k=>@Option.rec V (λY=>Option j) none (λv=>iM k v Q) (G Z)|.o a f _=>λL Q k=>aM G z a L Q (up f (iM k))|.t a Z _=>λL Q k=>aM G z a L Q (ut (aM G z Z) L (iM k))|.g f q _ _=>λL Q k=>cW G z q L Q (rH z f (iM k))|.p b q _ _=>λL Q k=>cW G z q L Q (uq b (iM k))|.j M a q _ _=>λL Q k=>aM G z a L Q (uw M (cW G z q) L (iM k))|.n o a b p=>mL G z (.n o a b p)|.r a p=>mL G z (.r a p)|.a a b c D e=>mL G z (.a a b c D e)|.q a b c=>mL G z (.q a b c)|.m a b c=>mL G z (.m a b c)|.e a b c=>mL G z (.e a b c)|.d a b c D e f P h Z S k=>mL G z (.d a b c D e f P h Z S k)|.l a b c D e f P h Z=>mL G z (.l a b c D e f P h Z)noncomputable def cW(G:ds)(z:dd):List aV->ov j|[]=>λY Q k=>k [] Q|e::q=>λL Q k=>aM G z e L Q (wa (cW G z q) L k)noncomputable def im(G:ds)(z:dd)(J:Bool):List aV->kk j|[]=>λY Y Y=>none|e::q=>match q with|[]=>aM G z e|_::_=>λL Q k=>aM G z e L Q (wM J (im G z J q) L k)noncomputable def gJ(G:ds)(z:dd)(J:Bool):List aV->ow j|[]=>λY Q k=>k J Q|e::q=>λL Q k=>el G z e L Q (nT J (gJ G z J q) L k)end
mutual noncomputable def fd(G:ds)(z:dd):dS->Cs j|.a q _=>λv L Q k=>if q<L.length then k (L.set q (some v)) Q else none|.b o _=>λv L Q k=>vC (wk o.length (jv G z o) L Q k) (jW Q v)|.c a q _=>λv L Q k=>aM G z a L Q (wh (aM G z q) v L k)noncomputable def jv(G:ds)(z:dd):List dS->yz j|[]=>λp L Q k=>k L Q|t::o=>λf L Q k=>match f with|x::f=>fd G z t x L Q (wj (jv G z o) f k)|[]=>none end
def ue(G:ds)(z:dd)(w:Nat)(q:aY):oN:=λL Q k=>vD k (az G z w q L Q)
mutual noncomputable def hR(G:ds)(z:dd)(w:Nat):aY->oN
|.f t e _=>λL Q k=>aM G z e L Q (wK (fd G z t) L k)|.c e _=>λL Q k=>aM G z e L Q (wN L k)|.a c a b _=>λL Q k=>el G z c L Q (rm (dP G z w a) (dP G z w b) L k)|.g J _=>match J with|[]=>λL Q k=>k (.b .j) L Q|e::_=>λL Q k=>aM G z e L Q (uz L k)
|.d _=>λL Q k=>k .c L Q|.b a b c q e f r h=>ue G z w (.b a b c q e f r h)|.e a b c=>ue G z w (.e a b c)|.h a b c q e f r h v x k l Z Y o p=>ue G z w (.h a b c q e f r h v x k l Z Y o p)|.i a b c q e f r h v x k l Z Y o=>ue G z w (.i a b c q e f r h v x k l Z Y o)noncomputable def dP(G:ds)(z:dd)(w:Nat):List aY->oN|[]=>λL Q k=>k .a L Q|U::W=>λL Q k=>hR G z w U L Q (ro (dP G z w W) k)end
section
variable{j:Type}{G:ds}{z:dd}{w:Nat}{a b c:aV}{L:ao}{Q:af}{k:bR j}{d:ew j}{m:hr j}{n:hV j}{s:iz}{i:List aV}{g y:PySem.Pos}{O:B}
@[simp↓]theorem Vj:fD Q k (some v)=k v Q:=rfl
@[simp↓]theorem Vh:gI Q d (some t)=d t Q:=rfl
@[simp↓]theorem Vm:il k (some (v,Q))=k v Q:=rfl
@[simp↓]theorem Vi{q:List V->Option j}:vC q (some l)=q l:=rfl
@[simp↓]theorem Vn{q:af->Option j}:sl q (some Q)=q Q:=rfl
@[simp↓]theorem Vl:vD s (some (q,L,Q))=s q L Q:=rfl
@[simp↓]theorem VW{r:ao}:aM G z (.c 0 p) (some v::r) Q k=k v Q:=rfl
@[simp↓]theorem VX{q}{r:ao}:aM G z (.c 1 p) (q::some v::r) Q k=k v Q:=rfl
@[simp↓]theorem VQ{q o}{r:ao}:fd G z (.a 1 p) v (q::o::r) Q n=n (q::some v::r) Q:=rfl
@[simp↓]theorem VY{q o}{r:ao}:aM G z (.c 2 p) (q::o::some v::r) Q k=k v Q:=rfl
@[simp↓]theorem V6{q o}{r:ao}:el G z (.c 2 p) (q::o::some v::r) Q d=gI Q d (ev Q v):=rfl
@[simp↓]theorem VR{q o f}{r:ao}:fd G z (.a 2 p) v (q::o::f::r) Q n=n (q::o::some v::r) Q:=rfl
@[simp↓]theorem VZ{q o f}{r:ao}:aM G z (.c 3 p) (q::o::f::some v::r) Q k=k v Q:=rfl
@[simp↓]theorem V7{q o f}{r:ao}:el G z (.c 3 p) (q::o::f::some v::r) Q d=gI Q d (ev Q v):=rfl
@[simp↓]theorem VS{q o f e}{r:ao}:fd G z (.a 3 p) v (q::o::f::e::r) Q n=n (q::o::f::some v::r) Q:=rfl
@[simp↓]theorem V0{q o f e}{r:ao}:aM G z (.c 4 p) (q::o::f::e::some v::r) Q k=k v Q:=rfl
@[simp↓]theorem VT{q o f e x}{r:ao}:fd G z (.a 4 p) v (q::o::f::e::x::r) Q n=n (q::o::f::e::some v::r) Q:=rfl
@[simp↓]theorem V1{q o f e x}{r:ao}:aM G z (.c 5 p) (q::o::f::e::x::some v::r) Q k=k v Q:=rfl
@[simp↓]theorem V8{q o f e x}{r:ao}:el G z (.c 5 p) (q::o::f::e::x::some v::r) Q d=gI Q d (ev Q v):=rfl
@[simp↓]theorem VU{q o f e x h}{r:ao}:fd G z (.a 5 p) v (q::o::f::e::x::h::r) Q n=n (q::o::f::e::x::some v::r) Q:=rfl
@[simp↓]theorem V2{q o f e x h}{r:ao}:aM G z (.c 6 p) (q::o::f::e::x::h::some v::r) Q k=k v Q:=rfl
@[simp↓]theorem VV{q o f e x h a6}{r:ao}:fd G z (.a 6 p) v (q::o::f::e::x::h::a6::r) Q n=n (q::o::f::e::x::h::some v::r) Q:=rfl
@[simp↓]theorem V3{q o f e x h a6}{r:ao}:aM G z (.c 7 p) (q::o::f::e::x::h::a6::some v::r) Q k=k v Q:=rfl
@[simp↓]theorem V4{q o f e x h a6 a7}{r:ao}:aM G z (.c 8 p) (q::o::f::e::x::h::a6::a7::some v::r) Q k=k v Q:=rfl
@[simp↓]theorem V5{q o f e x h a6 a7 a8}{r:ao}:aM G z (.c 9 p) (q::o::f::e::x::h::a6::a7::a8::some v::r) Q k=k v Q:=rfl
@[simp↓]theorem VH{q o f e x h a6 a7 a8 a9 a0}{r:ao}:fd G z (.a 10 p) v (q::o::f::e::x::h::a6::a7::a8::a9::a0::r) Q n=n (q::o::f::e::x::h::a6::a7::a8::a9::some v::r) Q:=rfl
@[simp↓]theorem UU:aM G z (.f (.c q) o p) L Q k=k (.b q) Q:=rfl
@[simp↓]theorem U3:aM G z (.f (.d O) q p) L Q k=k (.a O) Q:=rfl
@[simp↓]theorem UN:aM G z (.f (.a t) q p) L Q k=k (.h t) Q:=rfl
@[simp↓]theorem U0:aM G z (.f .b q p) L Q k=k .j Q:=rfl
@[simp low]theorem U5:aM G z (.c q p) L Q k=fD Q k (dR L q):=rfl
@[simp↓]theorem UT:aM G z (.s q p) L Q k=fD Q k (G q):=rfl
@[simp↓]theorem UO:aM G z (.k q o p) L Q k=im G z q o L Q k:=rfl
@[simp↓]theorem UM:aM G z (.n q a b p) L Q k=aM G z a L Q (wL q (aM G z b) L k):=rfl
@[simp↓]theorem UZ:aM G z (.r a p) L Q k=aM G z a L Q (we k):=rfl
@[simp↓]theorem UV:aM G z (.b c a b p) L Q k=el G z c L Q (rn (aM G z a) (aM G z b) L k):=rfl
@[simp↓]theorem UQ:aM G z (.i q a b p) L Q k=aM G z a L Q (rk q (aM G z b) L (us k)):=rfl
@[simp↓]theorem UK:aM G z (.o a f p) L Q k=aM G z a L Q (up f k):=rfl
@[simp↓]theorem UW:aM G z (.t a b p) L Q k=aM G z a L Q (ut (aM G z b) L k):=rfl
@[simp↓]theorem U2:aM G z (.a a i o q p) L Q k=aM G z a L Q (wg (cW G z i) (cW G z o) L k):=rfl
@[simp↓]theorem UX:aM G z (.q q o p) L Q k=cW G z o L Q (wd q k):=rfl
@[simp↓]theorem U4:aM G z (.m q o p) L Q k=cW G z q L Q (wl k):=rfl
@[simp↓]theorem US:aM G z (.e q [] p) L Q k=il k (eU q (.e []) Q):=rfl
@[simp]theorem PI{q}:aM G z (.e o q p) L Q k=if gu (eR q)=true then il k (eU o (.e (eR q)) Q)else none:=rfl
@[simp↓]theorem UR:aM G z (.d o e f p r v g y i x q) L Q k=il k ((aT G z (.d o e f p r v g y i x q) L).1 Q):=rfl
@[simp↓]theorem UP:aM G z (.g f o q p) L Q k=cW G z o L Q (rH z f k):=rfl
@[simp↓]theorem UL:aM G z (.p o f q p) L Q k=cW G z f L Q (uq o k):=rfl
@[simp↓]theorem UY:aM G z (.j o a f q p) L Q k=aM G z a L Q (uw o (cW G z f) L k):=rfl
@[simp↓]theorem U1:aM G z (.l a o f r v g y q p) L Q k=aM G z a L Q (wf o f k):=rfl
@[simp↓]theorem Vt:el G z (.k q o p) L Q d=gJ G z q o L Q d:=rfl
@[simp↓]theorem Vv:el G z (.i q a b p) L Q d=aM G z a L Q (rk q (aM G z b) L d):=rfl
@[simp low]theorem QQ:el G z (.c q p) L Q d=fD Q (iM d) (dR L q):=rfl
@[simp↓]theorem Vu:el G z (.g f o q p) L Q d=cW G z o L Q (rH z f (iM d)):=rfl
@[simp↓]theorem TU:cW G z [] L Q m=m [] Q:=rfl
@[simp↓]theorem LY:cW G z (e::q) L Q m=aM G z e L Q (wa (cW G z q) L m):=rfl
@[simp↓]theorem HO:im G z q [e] L Q k=aM G z e L Q k:=rfl
@[simp↓]theorem Gm:im G z q (e::o::f) L Q k=aM G z e L Q (wM q (im G z q (o::f)) L k):=rfl
@[simp↓]theorem VB:gJ G z q [] L Q d=d q Q:=rfl
@[simp↓]theorem QC:gJ G z q (e::o) L Q d=el G z e L Q (nT q (gJ G z q o) L d):=rfl
@[simp↓]theorem Tk:iM d x Q=gI Q d (ev Q x):=rfl
@[simp↓]theorem Sp:ur q x k o Q=fD Q k (cZ Q q x o):=rfl
@[simp↓]theorem So:wL q (aM G z b) L k x Q=aM G z b L Q (ur q x k):=rfl
@[simp↓]theorem Sd:we k x Q=fD Q k (pG x):=rfl
@[simp↓]theorem Sr:us k t Q=k (.h t) Q:=rfl
@[simp↓]theorem Sv:rl q x d o Q=gI Q d (bp Q q x o):=rfl
@[simp↓]theorem Su:rk q (aM G z b) L d x Q=aM G z b L Q (rl q x d):=rfl
@[simp↓]theorem Sl:up f k x Q=fD Q k (jG x f):=rfl
@[simp↓]theorem Sy:uu x k q Q=fD Q k (a_ Q x q):=rfl
@[simp↓]theorem Sx:ut (aM G z b) L k x Q=aM G z b L Q (uu x k):=rfl
@[simp↓]theorem Tf:uB x l k h Q=fD Q k (iV Q x l h):=rfl
@[simp↓]theorem Te:uA x (cW G z q) L k l Q=cW G z q L Q (uB x l k):=rfl
@[simp↓]theorem R9:wg (cW G z i) (cW G z q) L k x Q=cW G z i L Q (uA x (cW G z q) L k):=rfl
@[simp↓]theorem Sa:wd q k l Q=il k (eU q (.d l) Q):=rfl
@[simp↓]theorem Tn:wl k l Q=k (.g l) Q:=rfl
@[simp↓]theorem Ss:rH z f k l Q=il k (z f l Q):=rfl
@[simp↓]theorem Sn:uq q k l Q=fD Q k (f' Q q l):=rfl
@[simp↓]theorem Sc:ux q x k l Q=il k (cN Q q x l):=rfl
@[simp↓]theorem Sg:wf q o k x Q=fD Q k (mD x q o):=rfl
@[simp↓]theorem SA:uv x m l Q=m (x::l) Q:=rfl
@[simp↓]theorem Sz:wa (cW G z q) L m x Q=cW G z q L Q (uv x m):=rfl
@[simp↓]theorem Sq:wM q (im G z q o) L k x Q=gI Q (rG q x (im G z q o) L k) (ev Q x):=rfl
@[simp↓]theorem Tj:wj (jv G z q) h n L Q=jv G z q h L Q n:=rfl
@[simp↓]theorem Ti:wi L n Q=n L Q:=rfl
@[simp↓]theorem Th:uC x v L n q Q=sl (wi L n) (eY Q x q v):=rfl
@[simp↓]theorem Tg:wh (aM G z b) v L n x Q=aM G z b L Q (uC x v L n):=rfl
@[simp↓]theorem Se:uy s L Q=s .a L Q:=rfl
@[simp↓]theorem Sk:wK (fd G z q) L s v Q=fd G z q v L Q (uy s):=rfl
@[simp↓]theorem Sh:uz L s v Q=s (.b v) L Q:=rfl
@[simp↓]theorem To:pc v Q=some (v,Q):=rfl
@[simp↓]theorem Tl:rp t Q=some (t,Q):=rfl
@[simp↓]theorem R_:wc l Q=some (l,Q):=rfl
@[simp↓]theorem R':wb L Q=some (L,Q):=rfl
@[simp↓]theorem Sw:hN q L Q=some (q,L,Q):=rfl
@[simp↓]theorem Sm{q:ao×af->Option j}:CR q L Q=q (L,Q):=rfl
@[simp↓]theorem Vx:rn (aM G z a) (aM G z b) L k true Q=aM G z a L Q k:=rfl
@[simp↓]theorem Uj:rn (aM G z a) (aM G z b) L k false Q=aM G z b L Q k:=rfl
@[simp low]theorem Ru:rn (aM G z a) (aM G z b) L k t Q=if t=true then aM G z a L Q k else aM G z b L Q k:=by induction t<;>rfl
@[simp low]theorem Rv:CS (el G z a) (el G z b) L d t Q=if t=true then el G z a L Q d else el G z b L Q d:=by induction t<;>rfl
@[simp↓]theorem Vw:rm (dP G z w q) (dP G z w o) L s true Q=dP G z w q L Q s:=rfl
@[simp↓]theorem Ui:rm (dP G z w o) (dP G z w q) L s false Q=dP G z w q L Q s:=rfl
@[simp low]theorem Qy:rm (dP G z w q) (dP G z w o) L s t Q=if t=true then dP G z w q L Q s else dP G z w o L Q s:=by induction t<;>rfl
@[simp↓]theorem VD:nT true (gJ G z true q) L d true Q=gJ G z true q L Q d:=rfl
@[simp↓]theorem S3:rG true x (im G z true q) L k true Q=im G z true q L Q k:=rfl
@[simp↓]theorem VC:nT true (gJ G z true q) L d false Q=d false Q:=rfl
@[simp↓]theorem VA:nT false (gJ G z false q) L d true Q=d true Q:=rfl
@[simp↓]theorem S2:rG false x (im G z false q) L k true Q=k x Q:=rfl
@[simp↓]theorem Vz:nT false (gJ G z false q) L d false Q=gJ G z false q L Q d:=rfl
@[simp low]theorem Rw:nT q (gJ G z q o) L d t Q=if t=q then gJ G z q o L Q d else d t Q:=by induction t<;>induction q<;>rfl
@[simp low]theorem QI:rG q x (im G z q o) L k t Q=if t=q then im G z q o L Q k else k x Q:=by induction t<;>induction q<;>rfl
@[simp↓]theorem Sb:uw q (cW G z o) L k x Q=sj (cW G z o L Q (ux q x k)) (ek Q q x):=rfl
@[simp↓]theorem Vk{q:Option j}:sj q true=q:=rfl
@[simp↓]theorem V9:wN L s (.f q) Q=s .a L Q:=rfl
@[simp↓]theorem Uq:fd G z (.c a b p) v L Q n=aM G z a L Q (wh (aM G z b) v L n):=rfl
@[simp↓]theorem Uo:fd G z (.b [q,o] p) (.g [f,r]) L Q n=jv G z [q,o] [f,r] L Q n:=rfl
@[simp↓]theorem Up:fd G z (.b [q,o,f] p) (.g [r,v,e]) L Q n=jv G z [q,o,f] [r,v,e] L Q n:=rfl
@[simp↓]theorem Un:fd G z (.b [q,o] p) (.d [f,r]) L Q n=jv G z [q,o] [f,r] L Q n:=rfl
@[simp low]theorem Ur:fd G z (.b q p) v L Q n=vC (wk q.length (jv G z q) L Q n) (jW Q v):=rfl
@[simp low]theorem Tm{q}:wk o q L Q n l=if l.length=o then q l L Q n else none:=rfl
@[simp↓]theorem Uw:jW Q (.g l)=some l:=rfl
@[simp low]theorem KQ:fd G z (.a q p) v L Q n=if q<L.length then n (L.set q (some v)) Q else none:=rfl
@[simp↓]theorem Us:jv G z [] l L Q n=n L Q:=rfl
@[simp↓]theorem Ku:jv G z (q::o) (v::l) L Q n=fd G z q v L Q (wj (jv G z o) l n):=rfl
@[simp↓]theorem UC:hR G z w (.f q e p) L Q s=aM G z e L Q (wK (fd G z q) L s):=rfl
@[simp↓]theorem UE:hR G z w (.c e p) L Q s=aM G z e L Q (wN L s):=rfl
@[simp↓]theorem UG:hR G z w (.a c q o p) L Q s=el G z c L Q (rm (dP G z w q) (dP G z w o) L s):=rfl
@[simp↓]theorem UH:hR G z w (.g [e] p) L Q s=aM G z e L Q (uz L s):=rfl
@[simp↓]theorem UF{q}:hR G z w (.b o f r v g y q p) L Q s=vD s (az G z w (.b o f r v g y q p) L Q):=rfl
@[simp↓]theorem UD:hR G z w (.d p) L Q s=s .c L Q:=rfl
@[simp↓]theorem UJ:dP G z w [] L Q s=s .a L Q:=rfl
@[simp↓]theorem Ra:dP G z w (q::o) L Q s=hR G z w q L Q (ro (dP G z w o) s):=rfl
@[simp↓]theorem Vr:ro q s .a L Q=q L Q s:=rfl
@[simp↓]theorem Vs:ro q s (.b v) L Q=s (.b v) L Q:=rfl
@[simp↓]theorem Vq:ro q s .c L Q=s .c L Q:=rfl
@[simp↓]theorem VJ{q:Type}{a b:q}:(if true=true then a else b)=a:=rfl
@[simp↓]theorem Ux{q:Type}{a b:q}:(if false=true then a else b)=b:=rfl
end
noncomputable def rL(r:dc)(k:ao->af->dc):dc:=r.bind λq=>match q.1 with|.a=>k q.2.1 q.2.2|_=>some q
@[simp]theorem fg{k}:rL (some (.a,L,Q)) k=k L Q:=rfl
@[simp]theorem pT{v}{k}:rL (some (.b v,q)) k=some (.b v,q):=rfl
@[simp]theorem PU{k}:rL (some (.c,q)) k=some (.c,q):=rfl
@[simp]theorem tz:aI G z w [] L Q=some (.a,L,Q):=rfl
theorem cU{q}:aI G z w (o::q) L Q=rL (az G z w o L Q) (aI G z w q):=rfl
theorem zn{t}:az G z w (.f t e p) L Q=((aT G z e L).1 Q).bind λr=>(fn G z t r.1 L r.2).map λq=>(.a,q):=rfl
theorem Kd{a b}:az G z w (.a c a b p) L Q=((aT G z c L).2 Q).bind λr=>if r.1 then aI G z w a L r.2 else aI G z w b L r.2:=rfl
theorem BO:az G z w (.g [e] p) L Q=((aT G z e L).1 Q).map λr=>(.b r.1,L,r.2):=rfl
theorem kD{v}:fn G z (.a q p) v L Q=if q<L.length then some (L.set q (some v),Q)else none:=rfl
theorem Ki{t}{q}:lD G z (t::o) (x::q) L Q=(fn G z t x L Q).bind λr=>lD G z o q r.1 r.2:=rfl
noncomputable def wR(q:Option (V×af)):Option (Bool×af):=q.bind λr=>(ev r.2 r.1).map λb=>(b,r.2)
theorem BM:(aT G z (.f c k p) L).1 Q=some (c.e,Q):=rfl
theorem J7:(aT G z (.c q p) L).1 Q=(dR L q).map λv=>(v,Q):=rfl
theorem IM:(aT G z (.i o a b p) L).1 Q=((aT G z a L).1 Q).bind λr=>((aT G z b L).1 r.2).bind λq=>(bp q.2 o r.1 q.1).map λv=>(.h v,q.2):=by refine(?_:Option.map _ (((aT G z a L).1 Q).bind λr=>((aT G z b L).1 r.2).bind λq=>(bp q.2 o r.1 q.1).map λv=>(v,q.2))=_);induction(aT G z a L).1 Q with|none=>rfl|some r=>refine(?_:Option.map _ (((aT G z b L).1 r.2).bind λq=>(bp q.2 o r.1 q.1).map λv=>(v,q.2))=((aT G z b L).1 r.2).bind _);induction(aT G z b L).1 r.2 with|none=>rfl|some q=>refine(?_:Option.map _ (Option.map _ (bp q.2 o r.1 q.1))=Option.map _ (bp q.2 o r.1 q.1));induction bp q.2 o r.1 q.1<;>rfl
theorem IV:(aT G z (.o a f p) L).1 Q=((aT G z a L).1 Q).bind λr=>(jG r.1 f).map λv=>(v,r.2):=by refine(?_:(((aT G z a L).1 Q).bind λr=>match r.1 with|.k q=>(q[f]?).map λv=>(v,r.2)|_=>none)=_);congr 1;funext r;obtain⟨v,o⟩:=r;induction v using V.casesOn<;>rfl
theorem J5{i o}:(aT G z (.a a i o f p) L).1 Q=((aT G z a L).1 Q).bind λr=>(dC G z i L r.2).bind λq=>(dC G z o L q.2).bind λu=>(iV u.2 r.1 q.1 u.1).map λv=>(v,u.2):=rfl
theorem J6{q}:(aT G z (.m q k p) L).1 Q=(dC G z q L Q).map λr=>(.g r.1,r.2):=rfl
theorem J3:(aT G z (.e c l p) L).1 Q=if gu (eR l)then eU c (.e (eR l)) Q else none:=rfl
theorem J4{o}:(aT G z (.j f a o v p) L).1 Q=((aT G z a L).1 Q).bind λr=>if ek r.2 f r.1 then(dC G z o L r.2).bind λq=>cN q.2 f r.1 q.1 else none:=rfl
theorem zl{o}{e}{f}:(aT G z (.d c v x a0 o e a1 a2 f sc p) L).1 Q=(dC G z e L Q).bind λr=>(gs o r.1).bind λh=>(fL (λx Q=>(aT G z v [some x]).1 Q) (λx Q=>jP G z f [some x] Q) h [] r.2).bind λq=>eU c (.d q.1) q.2:=rfl
theorem Jd{f}{o}{q}:fL f o [] q Q=some (q,Q):=rfl
theorem AO{f}{p}{v o}:fL f p (x::v) o Q=(p x Q).bind λr=>if r.1 then(f x r.2).bind λq=>if o.length<ak then fL f p v (o++[q.1]) q.2 else none else fL f p v o r.2:=rfl
theorem J':(aT G z (.c q p) L).2 Q=wR ((aT G z (.c q p) L).1 Q):=rfl
theorem J9:(aT G z (.h a p) L).2 Q=((aT G z a L).2 Q).map λr=>(!r.1,r.2):=rfl
theorem J8:(aT G z (.i o a b p) L).2 Q=((aT G z a L).1 Q).bind λr=>((aT G z b L).1 r.2).bind λq=>(bp q.2 o r.1 q.1).map λv=>(v,q.2):=rfl
theorem BN:dC G z [] L Q=some ([],Q):=rfl
theorem zm{o}:dC G z (e::o) L Q=((aT G z e L).1 Q).bind λr=>(dC G z o L r.2).map λq=>(r.1::q.1,q.2):=rfl
theorem BR{q}:mO G z b (e::q) L Q=((aT G z e L).2 Q).bind λr=>if r.1=b then mO G z b q L r.2 else some r:=rfl
@[simp]theorem Uf:jP G z [] L Q=some (true,Q):=rfl
theorem J_{q}:jP G z (e::q) L Q=((aT G z e L).2 Q).bind λr=>if r.1 then jP G z q L r.2 else some (false,r.2):=rfl
theorem Kb:nM G z b [e] L Q=(aT G z e L).1 Q:=by induction h:(aT G z e L).1 Q<;>(refine(?_:Option.bind _ _=_);(refine J h ?_);rfl)
theorem Ka{q}:nM G z b (e::f::q) L Q=((aT G z e L).1 Q).bind λr=>(ev r.2 r.1).bind λt=>if t=b then nM G z b (f::q) L r.2 else some r:=rfl
theorem lJ Q(k:bR j)o:fD Q k o=(o.map λv=>(v,Q)).bind λr=>k r.1 r.2:=by induction o<;>rfl
theorem si Q(k:ew j)o:gI Q k o=(o.map λv=>(v,Q)).bind λr=>k r.1 r.2:=by induction o<;>rfl
theorem sk(k:bR j)o:il k o=o.bind λr=>k r.1 r.2:=by induction o<;>rfl
theorem uS k o:vD k o=o.bind λq=>k q.1 q.2.1 q.2.2:=by induction o<;>rfl
theorem dO{q v:Type}{o:Option (q×af)}{f}{p:q->af->Option j}{k:v->Option j}(h:∀r,p r.1 r.2=(f r).bind k):(o.bind λr=>p r.1 r.2)=(o.bind f).bind k:=by induction o with|none=>rfl|some r=>exact h r
theorem mR{q:Type}{c:Prop} [Decidable c]{a b:Option q}{o f}{k:q->Option j}(p:o=a.bind k)(r:f=b.bind k):(if c then o else f)=(if c then a else b).bind k:=by
 by_cases h:c;. (refine J (if_pos h) ?_;refine J (if_pos h) ?_);exact p
 . (refine J (if_neg h) ?_;refine J (if_neg h) ?_);exact r
def kX(j:Type)(G:ds)(z:dd)(e:aV):Prop:=(∀(L:ao)(Q:af)(k:bR j),aM G z e L Q k=((aT G z e L).1 Q).bind λr=>k r.1 r.2)/\∀(L:ao)(Q:af)(k:ew j),el G z e L Q k=((aT G z e L).2 Q).bind λr=>k r.1 r.2
theorem mC{q}(o:∀e∈q,kX j G z e)L Q(k:hr j):cW G z q L Q k=(dC G z q L Q).bind λr=>k r.1 r.2:=by induction q generalizing Q k with|nil=>rfl|cons e q f=>refine J LY ?_;refine J zm ?_;refine J ((o e (.head _)).1 _ _ _) ?_;exact dO λr=>(f (λe h=>o e (.tail _ h)) r.2 (uv r.1 k)).trans (by induction dC G z q L r.2<;>rfl)
theorem PE p{q}(o:∀e∈q,kX j G z e)L Q(k:bR j):im G z p q L Q k=(nM G z p q L Q).bind λr=>k r.1 r.2:=by induction q generalizing Q k with|nil=>rfl|cons e q x=>have v:=(o e (.head _)).1;have Z:=λe h=>o e (.tail _ h);clear o;induction q using List.casesOn with|nil=>(refine J HO ?_;refine J Kb ?_;exact v _ _ _)|cons f q=>refine J Gm ?_;refine J Ka ?_;refine J (v _ _ _) ?_;exact dO λr=>by refine(?_:gI _ _ (ev r.2 r.1)=Option.bind (Option.bind (ev r.2 r.1) _) _);induction ev r.2 r.1 with|none=>rfl|some b=>exact QI.trans (mR (x Z r.2 k) rfl)
theorem Ev o{q}(f:∀e∈q,kX j G z e)L Q(k:ew j):gJ G z o q L Q k=(mO G z o q L Q).bind λr=>k r.1 r.2:=by induction q generalizing Q k with|nil=>rfl|cons e q p=>refine J QC ?_;refine J BR ?_;refine J ((f e (.head _)).2 _ _ _) ?_;exact dO λr=>Rw.trans (mR (p (λe h=>f e (.tail _ h)) r.2 k) rfl)
theorem QX{k:ew j}:(o.bind λr=>iM k r.1 r.2)=(wR o).bind λr=>k r.1 r.2:=by induction o with|none=>rfl|some v=>exact si _ _ _
theorem kX.x(q:∀(L:ao)(Q:af)(k:bR j),aM G z e L Q k=((aT G z e L).1 Q).bind λr=>k r.1 r.2)(f:∀(L:ao)(Q:af)(k:ew j),el G z e L Q k=aM G z e L Q (iM k))(p:∀L Q,(aT G z e L).2 Q=wR ((aT G z e L).1 Q)):kX j G z e:=⟨q,λL Q k=>(f L Q k).trans ((q L Q (iM k)).trans (QX.trans (aJ (λo=>Option.bind o _) (p L Q).symm)))⟩
theorem kX.v(q:∀(L:ao)(Q:af)(k:bR j),aM G z e L Q k=((aT G z e L).1 Q).bind λr=>k r.1 r.2)(o:∀(L:ao)(Q:af)(k:ew j),el G z e L Q k=((aT G z e L).2 Q).bind λr=>k r.1 r.2):kX j G z e:=⟨q,o⟩
theorem vb e:kX j G z e:=by
 refine aV.rec (motive_1:=kX j G z) (motive_2:=λY=>∀e∈Y,kX j G z e) (λc k p=>.v (λo o o=>rfl) λL Q k=>si Q k (ev Q c.e)) (λW p=>.v (λo o o=>lJ _ _ _) λL Q k=>?_) (λW p=>.v (λo o o=>lJ _ _ _) λL Q k=>?_) (λt Y p H=>.v (PE t H) (Ev t H)) (λD a b p Z U=>.v (λL Q k=>(Z.1 _ _ _).trans (dO λr=>(U.1 L r.2 (ur D r.1 k)).trans (dO λq=>lJ _ _ _))) λo o o=>rfl) (λa p Z=>.v (λL Q k=>(Z.1 _ _ _).trans (dO λr=>lJ _ _ _)) λo o o=>rfl) (λa p Z=>.v (λL Q k=>(Z.1 _ _ _).trans (dO λr=>?_)) λL Q k=>(Z.2 _ _ _).trans ?_) (λc a b p C Z U=>.v (λL Q k=>(C.2 _ _ _).trans (dO λr=>Ru.trans (mR (Z.1 L r.2 k) (U.1 L r.2 k)))) λL Q k=>(C.2 _ _ _).trans (dO λr=>Rv.trans (mR (Z.2 L r.2 k) (U.2 L r.2 k)))) (λD a b p Z U=>.v (λL Q k=>by refine J IM ?_;exact(Z.1 _ _ _).trans (dO λr=>(U.1 L r.2 (rl D r.1 (us k))).trans (dO λq=>by refine(?_:gI _ _ (bp q.2 D r.1 q.1)=_);induction bp q.2 D r.1 q.1<;>rfl))) λL Q k=>(Z.1 _ _ _).trans (dO λr=>(U.1 L r.2 (rl D r.1 k)).trans (dO λq=>si _ _ _))) (λa f p Z=>.x (λL Q k=>by refine J IV ?_;exact(Z.1 _ _ _).trans (dO λr=>lJ _ _ _)) (λo o o=>rfl) λo o=>rfl) (λa W p Z M=>.x (λL Q k=>(Z.1 _ _ _).trans (dO λr=>(M.1 L r.2 (uu r.1 k)).trans (dO λq=>lJ _ _ _))) (λo o o=>rfl) λo o=>rfl) (λa i P p q Z T R=>.v (λL Q k=>(Z.1 _ _ _).trans (dO λr=>(mC T L r.2 (uA r.1 (cW G z P) L k)).trans (dO λq=>(mC R L q.2 (uB r.1 q.1 k)).trans (dO λu=>lJ _ _ _)))) λo o o=>rfl) (λc Y p H=>.v (λL Q k=>(mC H _ _ _).trans (dO λr=>sk _ _)) λo o o=>rfl) (λY k p H=>.v (λL Q k=>(mC H _ _ _).trans (by refine J J6 ?_;induction dC G z Y L Q<;>rfl)) λo o o=>rfl) (λc l p=>.v (λL Q k=>(by refine J PI ?_;refine J J3 ?_;exact mR (sk _ _) rfl)) λo o o=>rfl) (λc e x E I N S X V A p Z U C=>.v (λo o o=>sk _ _) λo o o=>rfl) (λf Y p q H=>.x (λL Q k=>(mC H _ _ _).trans (dO λr=>sk _ _)) (λo o o=>rfl) λo o=>rfl) (λb Y p q H=>.x (λL Q k=>(mC H _ _ _).trans (dO λr=>lJ _ _ _)) (λo o o=>rfl) λo o=>rfl) (λF a Y p q Z H=>.x (λL Q k=>(Z.1 _ _ _).trans (dO λr=>?_)) (λo o o=>rfl) λo o=>rfl) (λa x a0 kx ky g y p3 p4 Z=>.v (λL Q k=>(Z.1 _ _ _).trans (dO λr=>lJ _ _ _)) λo o o=>rfl) (λe h=>nomatch h) (λe Y h H K B=>dF B h (H K)) e;. refine J QQ ?_;refine J J' ?_;refine(?_:_=Option.bind (Option.bind ((dR L W).map _) _) _);induction dR L W with|none=>rfl|some v=>exact si _ _ _
 . refine(?_:fD _ _ (G W)=Option.bind (Option.bind ((G W).map _) _) _);induction G W with|none=>rfl|some v=>exact si _ _ _
 . refine(?_:gI _ _ (ev r.2 r.1)=_);induction ev r.2 r.1<;>rfl
 . refine J J9 ?_;induction(aT G z a L).2 Q<;>rfl
 . refine(?_:sj _ (ek r.2 F r.1)=_);induction ek r.2 F r.1 with|true=>exact(mC H L r.2 (ux F r.1 k)).trans (dO λq=>sk _ _)|false=>rfl
theorem pP e L Q(k:bR j):aM G z e L Q k=((aT G z e L).1 Q).bind λr=>k r.1 r.2:=(vb e).1 L Q k
theorem Eu e L Q(k:ew j):el G z e L Q k=((aT G z e L).2 Q).bind λr=>k r.1 r.2:=(vb e).2 L Q k
theorem PF q L Q(k:hr j):cW G z q L Q k=(dC G z q L Q).bind λr=>k r.1 r.2:=mC (λe o=>vb e) L Q k
theorem PH q o L Q(k:ew j):gJ G z q o L Q k=(mO G z q o L Q).bind λr=>k r.1 r.2:=Ev q (λe f=>vb e) L Q k
def tg(j:Type)(G:ds)(z:dd)(t:dS):Prop:=∀(v:V)(L:ao)(Q:af)(k:hV j),fd G z t v L Q k=(fn G z t v L Q).bind λr=>k r.1 r.2
theorem PG(f:∀t∈o,tg j G z t)q L Q(k:hV j):jv G z o q L Q k=(lD G z o q L Q).bind λr=>k r.1 r.2:=by induction o generalizing q L Q with|nil=>rfl|cons t o p=>induction q using List.casesOn with|nil=>rfl|cons x q=>refine J Ku ?_;refine J Ki ?_;refine J (f t (.head _) _ _ _ _) ?_;induction fn G z t x L Q with|none=>rfl|some r=>exact p (λt h=>f t (.tail _ h)) q r.1 r.2
theorem xL t:tg j G z t:=by
 refine dS.rec (motive_1:=tg j G z) (motive_2:=λo=>∀t∈o,tg j G z t) (λf p v L Q k=>by refine J KQ ?_;refine J kD ?_;exact mR rfl rfl) (λo p H v L Q k=>?_) (λa f p v L Q k=>(pP a _ _ _).trans (dO λr=>(pP f L r.2 (uC r.1 v L k)).trans (dO λq=>?_))) (λt h=>nomatch h) (λt o h H e x=>dF x h (H e)) t;. refine(?_:vC _ (jW Q v)=(Option.bind (jW Q v) _).bind _);induction jW Q v with|none=>rfl|some Z=>exact mR (PG H Z L Q k) rfl
 . refine(?_:sl _ (eY q.2 r.1 q.1 v)=_);induction eY q.2 r.1 q.1 v<;>rfl
def tf(G:ds)(z:dd)(w:Nat)(o:aY):Prop:=∀(L:ao)(Q:af)(k:iz),hR G z w o L Q k=(az G z w o L Q).bind λq=>k q.1 q.2.1 q.2.2
theorem xJ{f}(e:∀o∈f,tf G z w o)L Q k:dP G z w f L Q k=(aI G z w f L Q).bind λq=>k q.1 q.2.1 q.2.2:=by induction f generalizing L Q with|nil=>rfl|cons o f x=>refine J Ra ?_;refine J cU ?_;refine J (e o (.head _) _ _ _) ?_;induction az G z w o L Q with|none=>rfl|some q=>obtain⟨Z,p,r⟩:=q;induction Z with|a=>exact x (λo h=>e o (.tail _ h)) p r|c=>rfl|b v=>rfl
theorem xI q:tf G z w q:=by
 refine aY.rec (motive_1:=tf G z w) (motive_2:=λo=>∀q∈o,tf G z w q) (λt e p L Q k=>(pP e _ _ _).trans (dO λr=>(xL t r.1 L r.2 (uy k)).trans ?_)) (λe p L Q k=>(pP e _ _ _).trans (dO λr=>?_)) (λc a b p Z Y L Q k=>(Eu c _ _ _).trans (dO λr=>Qy.trans (mR (xJ Z L r.2 k) (xJ Y L r.2 k)))) (λE t I N S X b p H L Q k=>uS _ _) (λc b p H L Q k=>uS _ _) (λf p L Q k=>?_) (λp L Q k=>rfl) (λv x A d g y U W D C F M P T q2 q3 L Q k=>uS _ _) (λv x c kc jM g y U W D C F M P T L Q k=>uS _ _) (λq h=>nomatch h) (λq o h H R K=>dF K h (H R)) q;. induction fn G z t r.1 L r.2<;>rfl
 . obtain⟨v,B⟩:=r;induction v using V.casesOn<;>rfl
 . induction f using List.casesOn with|nil=>rfl|cons e f=>refine(?_:aM G z e L Q (uz L k)=(((aT G z e L).1 Q).map _).bind _);refine J (pP e _ _ _) ?_;induction(aT G z e L).1 Q<;>rfl
theorem xK o L Q k:dP G z w o L Q k=(aI G z w o L Q).bind λq=>k q.1 q.2.1 q.2.2:=xJ (λf p=>xI f) L Q k
theorem rb{q:Type}(o:Option (q×af)):(o.bind λr=>(some (r.1,r.2):Option (q×af)))=o:=by induction o<;>rfl
theorem zo e:(aT G z e L).1 Q=aM G z e L Q pc:=by(refine J (pP _ _ _ _) ?_);exact(rb _).symm
theorem BQ e:(aT G z e L).2 Q=el G z e L Q rp:=by(refine J (Eu _ _ _ _) ?_);exact(rb _).symm
@[simp↓]theorem Kc{q:List aV}:dC G z q L Q=cW G z q L Q wc:=by(refine J (PF _ _ _ _) ?_);exact(rb _).symm
theorem ty q:az G z w q L Q=hR G z w q L Q hN:=by(refine J (xI _ _ _ _) ?_);induction az G z w q L Q<;>rfl
@[simp↓]theorem Ug{q}:aI G z w (o::q) L Q=dP G z w (o::q) L Q hN:=by(refine J (xK _ _ _ _) ?_);induction aI G z w (o::q) L Q<;>rfl
theorem Et{q}:dP G z w q L Q hN=aI G z w q L Q:=by(refine J (xK _ _ _ _) ?_);induction aI G z w q L Q<;>rfl
@[simp↓]theorem Kh{t:dS}{v}:fn G z t v L Q=fd G z t v L Q wb:=by(refine J (xL _ _ _ _ _) ?_);exact(rb _).symm
@[simp↓]theorem Uh{t}{v}{q:ao×af->Option j}:(fn G z t v L Q).bind q=fd G z t v L Q (CR q):=by(refine J (xL _ _ _ _ _) ?_);rfl
@[simp↓]theorem Ue{q:List aV}:jP G z (e::q) L Q=gJ G z true (e::q) L Q rp:=by
 have o:∀(q:List aV)(Q:af),jP G z q L Q=mO G z true q L Q:=by intro q;induction q with|nil=>intro Q;rfl|cons e q p=>intro Q;(refine J J_ ?_;refine J BR ?_);induction(aT G z e L).2 Q with|none=>rfl|some r=>obtain⟨b,f⟩:=r;induction b with|true=>exact p f|false=>rfl
 (rw [o];refine J (PH _ _ _ _ _) ?_);exact(rb _).symm
@[simp↓]theorem SJ{t}{q}:(aT G z (.k t q p) L).2 Q=el G z (.k t q p) L Q rp:=BQ _
@[simp↓]theorem SI{o}:(aT G z (.j f a o q p) L).1 Q=aM G z (.j f a o q p) L Q pc:=zo _
@[simp↓]theorem SK{t}:az G z w (.f t e p) L Q=hR G z w (.f t e p) L Q hN:=ty _
@[simp↓]theorem SM{a b}:az G z w (.a e a b p) L Q=hR G z w (.a e a b p) L Q hN:=ty _
@[simp↓]theorem SN{q}:az G z w (.g q p) L Q=hR G z w (.g q p) L Q hN:=ty _
theorem N{k}{o}(h:o=some v)(q:k v Q=r):fD Q k o=r:=by(refine J h ?_);exact q
theorem eJ{k}{t}(h:o=some t)(q:k t Q=r):gI Q k o=r:=by(refine J h ?_);exact q
theorem H{k}(h:o=some (v,Q))(q:k v Q=r):il k o=r:=by(refine J h ?_);exact q
theorem je{k}(h:o=some Q)(q:k Q=r):sl k o=r:=by(refine J h ?_);exact q
theorem ft{x}(h:b=true)(q:x=r):sj x b=r:=by(refine J h ?_);exact q
theorem aZ{x q}(h:b=true)(o:x=r):kv b x q=r:=by(refine J h ?_);exact o
theorem hT{x q}(o:b=true->x=r)(f:b=false->q=r):kv b x q=r:=by induction b with|true=>exact o rfl|false=>exact f rfl
theorem as{x q}(h:b=false)(o:q=r):kv b x q=r:=by(refine J h ?_);exact o
def FT:iz:=λq o Q=>@eM.rec (λo=>dc) none none (λv=>some (.b v,[],Q)) q
@[simp↓]theorem Sf{v}:FT (.b v) L Q=some (.b v,[],Q):=rfl
theorem lL(h:az G z w f L Q=some (p,q,o))(v:k p q o=r):hR G z w f L Q k=r:=by(refine J (xI _ _ _ _) ?_;refine J h ?_);exact v
theorem eF{q}(h:dP G z w q L Q hN=r):aI G z w q L Q=r:=Et.symm.trans h
theorem aA(h:hR G z w q L Q hN=r):az G z w q L Q=r:=(ty q).trans h
theorem nr(h:aM G z e L Q pc=r):(aT G z e L).1 Q=r:=(zo e).trans h
theorem on(h:el G z e L Q rp=r):(aT G z e L).2 Q=r:=(BQ e).trans h
theorem fb{e}(h:cW G z e L Q wc=r):dC G z e L Q=r:=Kc.trans h
theorem Cx{t}{v}(h:fd G z t v L Q wb=r):fn G z t v L Q=r:=Kh.trans h
section
variable{t u:B}
@[simp↓]theorem Uy:a_ Q (.d (a::l)) (.b 0)=some a:=rfl
@[simp↓]theorem TR:a_ Q (.g (a::l)) (.b 0)=some a:=rfl
@[simp↓]theorem Uz:a_ Q (.d (b::a::l)) (.b 1)=some a:=rfl
@[simp↓]theorem TP:a_ Q (.d (c::b::a::l)) (.b 2)=some a:=rfl
@[simp↓]theorem TS:a_ Q (.g (c::b::a::l)) (.b 2)=some a:=rfl
@[simp↓]theorem TQ:a_ Q (.d (q::c::b::a::l)) (.b 3)=some a:=rfl
@[simp↓]theorem SS:((x::t:List Nat)==(q::u))=(x==q&&t==u):=rfl
@[simp↓]theorem SV:(([]:List Nat)==[])=true:=rfl
@[simp↓]theorem SU:((x::t:List Nat)==[])=false:=rfl
@[simp↓]theorem Vp:(true||p)=true:=rfl
@[simp↓]theorem Vo:(false||p)=p:=rfl
@[simp↓]theorem Vc:(!true)=false:=rfl
@[simp↓]theorem Vb:(!false)=true:=rfl
@[simp↓]theorem T8{j q:Type}{f:j->q}{a}{l}:List.map f (a::l)=f a::List.map f l:=rfl
@[simp↓]theorem T9{j q:Type}{f:j->q}:List.map f []=[]:=rfl
@[simp↓]theorem Tr{j:Type}{a}{l q:List j}:(a::l)++q=a::(l++q):=rfl
@[simp↓]theorem Ts{j:Type}{q}:([]:List j)++q=q:=rfl
noncomputable def cu(f:bn)(q:List V):ao:=q.map some++List.replicate (f.b.length-f.a) none
@[simp]theorem TV:cu ⟨q,1,[o,f],p,r⟩ [a]=[some a,none]:=rfl
@[simp]theorem TW:cu ⟨q,1,[o,f,p],r,v⟩ [a]=[some a,none,none]:=rfl
@[simp]theorem TX:cu ⟨q,1,[o,f,p,r],v,e⟩ [a]=[some a,none,none,none]:=rfl
@[simp]theorem TY:cu ⟨q,1,[o,f,p,r,v],e,x⟩ [a]=[some a,none,none,none,none]:=rfl
@[simp]theorem TZ:cu ⟨q,1,[o,f,p,r,v,e],x,h⟩ [a]=[some a,none,none,none,none,none]:=rfl
@[simp]theorem T0:cu ⟨q,1,[o,f,p,r,v,e,x,h],a0,a1⟩ [a]=[some a,none,none,none,none,none,none,none]:=rfl
@[simp]theorem T1:cu ⟨q,2,[o,f],p,r⟩ [a,b]=[some a,some b]:=rfl
@[simp]theorem T2:cu ⟨q,2,[o,f,p],r,v⟩ [a,b]=[some a,some b,none]:=rfl
@[simp]theorem T3:cu ⟨q,2,[o,f,p,r],v,e⟩ [a,b]=[some a,some b,none,none]:=rfl
@[simp]theorem T4:cu ⟨q,2,[o,f,p,r,v,e],x,h⟩ [a,b]=[some a,some b,none,none,none,none]:=rfl
@[simp]theorem T5:cu ⟨q,2,[o,f,p,r,v,e,x,h],a0,a1⟩ [a,b]=[some a,some b,none,none,none,none,none,none]:=rfl
@[simp]theorem T7:cu ⟨q,3,[o,f,p,r],v,e⟩ [a,b,c]=[some a,some b,some c,none]:=rfl
@[simp]theorem T6:cu ⟨q,3,[o,f,p,r,v,e,x,h,n9,a0],a1,a2⟩ [a,b,c]=[some a,some b,some c,none,none,none,none,none,none,none]:=rfl
@[simp↓]theorem S4:(bn.mk o f p r q).c=q:=rfl
end
section
variable{l:ao}
@[simp↓]theorem VK:dR (q::l) 0=q:=rfl
@[simp↓]theorem VL:dR (o::q::l) 1=q:=rfl
@[simp↓]theorem VM:dR (o::f::q::l) 2=q:=rfl
@[simp↓]theorem VN:dR (o::f::p::r::v::q::l) 5=q:=rfl
end
end
@[simp]theorem Tb:aO z (.f a)=.f a:=rfl
@[simp]theorem SF{a}:aO z (.d a)=.d a:=rfl
@[simp]theorem SH{a}:aO z (.g a)=.g a:=rfl
@[simp]theorem Td:aO z (.e a)=.e a:=rfl
@[simp]theorem Tc{n}:aO z (.c n)=z.getD n .i:=rfl
@[simp]theorem Vy:ev z (.h b)=some b:=rfl
@[simp]theorem lB:bp z .Eq (.a a) (.a b)=some (a==b):=rfl
@[simp]theorem HY:bp z .Eq (.b a) (.b b)=some (a==b):=rfl
@[simp]theorem S_:bp z .NotEq (.a a) (.a b)=some (!(a==b)):=rfl
@[simp]theorem S':bp z .Lt (.b a) (.b b)=some (decide (a<b)):=rfl
@[simp]theorem S7:bp z .GtE (.b a) (.b b)=some (decide (b<=a)):=rfl
@[simp]theorem S9:bp z .Is .j .j=some true:=rfl
@[simp]theorem wB{z}:eD (.a k) (.a s::z)=(eD (.a k) z).map λb=>(s==k)||b:=rfl
theorem C_:∀{l:List B},eD (.a k) (l.map .a)=some (l.contains k):=by intro z;induction z with|nil=>exact rfl|cons x l y=>
(refine J dU ?_;refine J wB ?_;refine J y ?_;refine J List.contains_cons ?_);have:(x==k)=(k==x):=by(refine J (propext lc) ?_;refine J (propext ez) ?_;refine J (propext ez) ?_);exact eq_comm
(refine J this ?_);rfl
@[simp]theorem S8:bp z .In a b=bp.z a (aO z b):=rfl
@[simp]theorem Ta:bp z .NotIn a b=(bp.z a (aO z b)).map (λO=>!O):=rfl
@[simp]theorem Uv{z}:bp.z (.f a) (.g z)=eD a z:=rfl
@[simp]theorem Ut:bp.z (.a k) (.e d)=some (bD d (.a k)).isSome:=rfl
@[simp]theorem Uu:bp.z (.a [k]) (.a s)=some (s.contains k):=rfl
@[simp]theorem NN{n:Nat}{v}{y:List V}(h:aO z v=.d y):ek z .e v=true:=by refine(?_:pp (aO z v)=true);(refine J h ?_);rfl
@[simp]theorem T'(h:m=.n\/m=.l\/m=.x\/m=.F\/m=.K\/m=.m):ek z m (.a s)=true:=by rcases h with rfl|rfl|rfl|rfl|rfl|rfl<;>rfl
@[simp]theorem nW{n}{v}{z}(h:y[n]?=some (.d z))(q:z.length<ak):cN y .e (.c n) [v]=some (.j,y.set n (.d (z++[v]))):=by refine(?_:(y[n]?).bind _=_);(refine J h ?_);exact if_pos q
@[simp]theorem NP{n}{z}{y}(h:q[n]?=some (.d y))(j:y.length+z.length<ak):cN q .q (.c n) [.d z]=some (.j,q.set n (.d (y++z))):=by refine(?_:(q[n]?).bind _=_);(refine J h ?_);exact if_pos j
@[simp]theorem Uc:cN z .n (.a s) []=some (.a (dI ca s),z):=rfl
@[simp]theorem Ud:cN z .n (.a s) [.a y]=some (.a (dI (λO=>y.contains O) s),z):=rfl
@[simp]theorem NU:cN z .l (.a s) []=some (.d ((cn s).map .a),z):=rfl
@[simp]theorem NV:cN z .l (.a s) [.a [c]]=some (.d ((cc c s).map .a),z):=rfl
@[simp]theorem T_:cN z .x (.a s) [.a [c]]=some (gL (du c s),z):=rfl
@[simp]theorem Ub:cN z .F (.a s) [.a [c]]=some (gL (fP c s),z):=rfl
@[simp]theorem Ua:cN z .K (.a s) [.a [c]]=some (.b (lt c s),z):=rfl
@[simp]theorem Tq{v}:eU true v z=some (.c z.length,z++[v]):=rfl
@[simp]theorem Tp{v}:eU false v z=some (v,z):=rfl
@[simp]theorem TE:pG (.b i)=some (.b (-i)):=rfl
@[simp]theorem jV{v}:f' z .a [v]=yV (aO z v):=rfl
@[simp↓]theorem SW{z}:yV (.d z)=some (.b z.length):=rfl
@[simp]theorem SX:f' z .b [.a s]=(ls s).map .b:=rfl
@[simp]theorem SY:f' z .c [.b i]=if cw i then some (.a (dW i))else none:=rfl
@[simp]theorem lm{v}{z}(h:aO y v=.d z):a_ y v (.b k)=bM z k:=by unfold a_;(refine J h ?_);rfl
@[simp]theorem yu:a_ z (.a s) (.b k)=(bM s k).map λc=>.a [c]:=rfl
@[simp]theorem sY{v}(h:aO z v=.e d):a_ z v (.a k)=(bD d (.a k)).map .f:=by unfold a_;(refine J h ?_);rfl
@[simp]theorem L6{v}(h:aO z v=.e d):a_ z v (.b k)=(bD d (.b k)).map .f:=by unfold a_;(refine J h ?_);rfl
@[simp]theorem s'{v}{z y}{q}(j:hz z=some l)(u:hz y=some h)(e:aO g v=.d q):iV g v z y=some (.d (ce q l h)):=by unfold iV;(refine J j ?_;refine J u ?_;refine J e ?_);rfl
@[simp]theorem UI{z y}(q:hz z=some l)(j:hz y=some h):iV u (.a s) z y=some (.a (ce s l h)):=by unfold iV;(refine J q ?_;refine J j ?_);rfl
@[simp↓]theorem UA:(V.a a).n=some a:=rfl
@[simp↓]theorem Vg{z:Type}{a:z}:fs [a]=some a:=rfl
@[simp]theorem S6:hz []=some none:=rfl
@[simp]theorem S5:hz [.b i]=some (some i):=rfl
@[simp]theorem S0:cZ z .Add (.b a) (.b b)=some (.b (a+b)):=rfl
@[simp]theorem S1:cZ z .Sub (.b a) (.b b)=some (.b (a-b)):=rfl
@[simp]theorem jB(h:a.length+b.length<ak):cZ z .Add (.a a) (.a b)=some (.a (a++b)):=by refine(?_:(if a.length+b.length<ak then _ else _)=_);(refine J (if_pos h) ?_;rfl)
@[simp]theorem AX{a b}(h:a.length+b.length<ak):cZ z .Add (.d a) (.d b)=some (.d (a++b)):=by refine(?_:(if a.length+b.length<ak then _ else _)=_);(refine J (if_pos h) ?_;rfl)
@[simp]theorem pt(z:cw a=true)(y:cw b=true):cZ q .Mult (.b a) (.b b)=some (.b (a*b)):=by refine(?_:(if cw a&&cw b then _ else _)=_);(refine J z ?_;refine J y ?_);rfl
@[simp]theorem AY(z:b≠0)(y:cw b=true):cZ q .FloorDiv (.b a) (.b b)=some (.b (a.fdiv b)):=by refine(?_:(if b≠0&&cw b then _ else _)=_);simp [z,y]
@[simp]theorem zw(z:b≠0)(y:cw b=true):cZ q .Mod (.b a) (.b b)=some (.b (a.fmod b)):=by refine(?_:(if b≠0&&cw b then _ else _)=_);simp [z,y]
theorem d_{a b:B}{z:Prop}(h:a=b)(e:(a==b)=false):z:=by subst h;rw [ji]at e;exact am e.symm
set_option genCtorIdx true in inductive cT where|e|f|d|g|c|h deriving DecidableEq
noncomputable def cT.b:cT->B|.e=>[122,101,114,111]|.f=>[116,48]|.d=>[116,49]|.g=>[115,49]|.c=>[97,48]|.h=>[120,53]
noncomputable def cT.a:cT->Nat|.e=>0|.f=>5|.d=>6|.g=>9|.c=>10|.h=>5
set_option genCtorIdx true in inductive fl where|c|d|f|g|h|e|i deriving DecidableEq
noncomputable def fl.b:fl->B|.c=>[48]|.d=>[49]|.f=>[51]|.g=>[53]|.h=>[57]|.e=>[45,55]|.i=>[53,50,52,50,56,56]
noncomputable def fl.a:fl->Int|.c=>0|.d=>1|.f=>3|.g=>5|.h=>9|.e=>-7|.i=>524288
set_option genCtorIdx true in inductive mW where|a|c|f|b|e deriving DecidableEq
noncomputable def mW.d:mW->B|.a=>[97,100,100]|.c=>[115,117,98]|.f=>[120,111,114]|.b=>[115,108,116,117]|.e=>[109,117,108]
set_option genCtorIdx true in inductive iA where|c|e|d deriving DecidableEq
noncomputable def iA.b:iA->B|.c=>[115,119]|.e=>[115,104]|.d=>[115,98]
set_option genCtorIdx true in inductive oy where|a|c|d deriving DecidableEq
noncomputable def oy.b:oy->B|.a=>[108,119]|.c=>[108,98]|.d=>[108,98,117]
set_option genCtorIdx true in inductive hU where|c|e|d|f|h|g deriving DecidableEq
noncomputable def hU.a:hU->B|.c=>[98,101,113]|.e=>[98,110,101]|.d=>[98,108,116]|.f=>[98,103,101]|.h=>[98,108,116,117]|.g=>[98,103,101,117]
noncomputable def hU.b:hU->hU|.c=>.e|.e=>.c|.d=>.f|.f=>.d|.h=>.g|.g=>.h
set_option genCtorIdx true in inductive eS where|c|b|e|g|h|f deriving DecidableEq
noncomputable def eS.a:eS->B|.c=>[48,40,115,112,41]|.b=>[52,40,115,49,41]|.e=>[48,40,115,49,41]|.g=>[52,40,115,112,41]|.h=>[56,40,115,112,41]|.f=>[49,40,115,112,41]
inductive aQ where|d(z u:cT)(t:fl)|i(z:cT)(t:fl)|g(x:mW)(z u r:cT)|c(w:iA)(v:cT)(s:eS)|f(w:oy)(z:cT)(s:eS)|b(Q:hU)(u r:cT)(y:B)|e(y:B)|k|j|l|o(z:cT)|p(z:cT)|n(y:B)|m(y:B)
noncomputable def vI:B:=[97,100,100,105]
def aQ.a:aQ->B|.d ..=>[97,100,100,105]|.i ..=>[108,117,105]|.g z ..=>z.d|.c w ..=>w.b|.f w ..=>w.b|.b y ..=>y.a|.e _=>[106,97,108]|.k=>[106,97,108,114]|.j=>[106,97,108,114]|.l=>[106,97,108]|.o _=>[108,105]|.p _=>[109,118]|.n _=>[108,117,105]|.m _=>[97,100,100,105]
def aQ.h:aQ->List B|.d z u w=>[z.b,u.b,w.b]|.i z w=>[z.b,w.b]|.g _ z u t=>[z.b,u.b,t.b]|.c _ v r=>[v.b,r.a]|.f _ z r=>[z.b,r.a]|.b _ u t y=>[u.b,t.b,y]|.e y=>[[122,101,114,111],y]|.k=>[[122,101,114,111],[48,40,114,97,41]]|.j=>[[122,101,114,111],[48,40,116,49,41]]|.l=>[[114,97],[102]]|.o z=>[z.b,[53]]|.p z=>[z.b,[116,49]]|.n y=>[[116,49],[37,104,105,40]++y++[41]]|.m y=>[[116,49],[116,49],[37,108,111,40]++y++[41]]
@[simp]theorem TF d a n:(aQ.d d a n).a=[97,100,100,105]:=rfl
@[simp]theorem Tt d a n:(aQ.d d a n).h=[d.b,a.b,n.b]:=rfl
@[simp]theorem U8 d n:(aQ.i d n).a=[108,117,105]:=rfl
@[simp]theorem TD d n:(aQ.i d n).h=[d.b,n.b]:=rfl
@[simp]theorem U' o d a b:(aQ.g o d a b).a=o.d:=rfl
@[simp]theorem SP o d a b:(aQ.g o d a b).h=[d.b,a.b,b.b]:=rfl
@[simp]theorem Va w v m:(aQ.c w v m).a=w.b:=rfl
@[simp]theorem SR w v m:(aQ.c w v m).h=[v.b,m.a]:=rfl
@[simp]theorem TO w d m:(aQ.f w d m).a=w.b:=rfl
@[simp]theorem TC w d m:(aQ.f w d m).h=[d.b,m.a]:=rfl
@[simp]theorem TG k a b l:(aQ.b k a b l).a=k.a:=rfl
@[simp]theorem Tu k a b l:(aQ.b k a b l).h=[a.b,b.b,l]:=rfl
@[simp]theorem TK l:(aQ.e l).a=[106,97,108]:=rfl
@[simp]theorem Tx l:(aQ.e l).h=[[122,101,114,111],l]:=rfl
@[simp]theorem U_:aQ.k.a=[106,97,108,114]:=rfl
@[simp]theorem SQ:aQ.k.h=[[122,101,114,111],[48,40,114,97,41]]:=rfl
@[simp]theorem TL:aQ.j.a=[106,97,108,114]:=rfl
@[simp]theorem Tz:aQ.j.h=[[122,101,114,111],[48,40,116,49,41]]:=rfl
@[simp]theorem TH:aQ.l.a=[106,97,108]:=rfl
@[simp]theorem Tv:aQ.l.h=[[114,97],[102]]:=rfl
@[simp]theorem TM d:(aQ.o d).a=[108,105]:=rfl
@[simp]theorem TA d:(aQ.o d).h=[d.b,[53]]:=rfl
@[simp]theorem U9 d:(aQ.p d).a=[109,118]:=rfl
@[simp]theorem SO d:(aQ.p d).h=[d.b,[116,49]]:=rfl
@[simp]theorem TJ l:(aQ.n l).a=[108,117,105]:=rfl
@[simp]theorem Tw l:(aQ.n l).h=[[116,49],[37,104,105,40]++l++[41]]:=rfl
@[simp]theorem TN l:(aQ.m l).a=[97,100,100,105]:=rfl
@[simp]theorem TB l:(aQ.m l).h=[[116,49],[116,49],[37,108,111,40]++l++[41]]:=rfl
set_option genCtorIdx true in inductive lN where|f|b|d|g|e|c|a deriving DecidableEq
noncomputable def lN.h:lN->B|.f=>[46,116,101,120,116]|.b=>[46,103,108,111,98,108,32,104]|.d=>[46,114,111,100,97,116,97]|.g=>[46,119,111,114,100,32,46,76,49]|.e=>[46,103,108,111,98,108,32,107,101,112,116]|.c=>[35,32,97,32,114,101,109,97,114,107]|.a=>[46,97,108,105,103,110,32,50]
noncomputable def lN.i:lN->B|.f=>[46,116,101,120,116]|.b=>[46,103,108,111,98,108]|.d=>[46,114,111,100,97,116,97]|.g=>[46,119,111,114,100]|.e=>[46,103,108,111,98,108]|.c=>[]|.a=>[46,97,108,105,103,110]
inductive an where|a(y:aQ)|d(l:B)|g|f(q:Bool)|e(z:cT)|c(z:lN)
noncomputable def CK(b:Bool):B:=if b then [46,108,111,99,32,57]else [46,108,111,99,32,52]
noncomputable def pX:B:=[49,32,35,32,109,111,114,101]
noncomputable def cE:Nat->B|1=>[32,32,32,32]|_=>[9]
noncomputable def ci:Nat->B|1=>[44]|2=>[32,44,32]|_=>[44,32]
def an.b(s:Nat):an->B|.a y=>cE s++y.a++[32]++cm (ci s) y.h|.d l=>l++[58]|.g=>[]|.f q=>cE s++CK q|.e z=>cE s++vI++[32]++cm (ci s) [z.b,z.b,pX]|.c z=>cE s++z.h
structure FN where
d:B
a:B
b:B
c:List B
noncomputable def ah(l:List B):V:=.d (l.map .a)
def FN.e(l:FN):V:=.k [.a l.d,.a l.a,.a l.b,ah l.c]
noncomputable abbrev A:=Nat×an
noncomputable def an.i:an->B|.a _=>[99,111,100,101]|.d _=>[108,97,98,101,108]|.g=>[98,108,97,110,107]|.f _=>[108,111,99]|.e _=>[111,116,104,101,114]|.c _=>[111,116,104,101,114]
def an.j:an->B|.a z=>z.a|.d l=>l|.g=>[]|.f _=>[46,108,111,99]|.e _=>[97,100,100,105]|.c y=>y.i
def an.k:an->List B|.a y=>y.h|.d _=>[]|.g=>[]|.f _=>[]|.e z=>[z.b,z.b,[49]]|.c _=>[]
def A.l(z:A):V:=.k [.a (z.2.b z.1),.a z.2.i,.a z.2.j,ah z.2.k]
noncomputable def aU(z:List A):V:=.d (z.map A.l)
section
variable{l:A}
@[simp]theorem Uk:jG l.l 1=some (.a l.2.i):=rfl
@[simp]theorem SE:aO y (aU z)=.d (z.map A.l):=rfl
@[simp]theorem SG{z}:aO y (ah z)=.d (z.map .a):=rfl
end
theorem E5:∃f,f=iQ:=⟨iQ,rfl⟩
noncomputable def I:Nat->Nat->dd:=Classical.choose E5
theorem xG:I=iQ:=Classical.choose_spec E5
theorem dx{w n k}(h:k<n):I w n k=iQ w (k+1) k:=by refine J xG ?_;induction n with|zero=>lia|succ n y=>
rcases qk k n with z|z;. refine J (aN (y z)) ?_;funext q j;refine(?_:(if k=n then _ else _)=_);exact J (if_neg (iJ z)) rfl
. clear y;obtain rfl:k=n:=gk (eB h) z;rfl
theorem sp{w n k}(h:k<n):I w n k=I w (k+1) k:=by refine(dx h).trans (J (dx (li k)) ?_);rfl
theorem u_{w n k}{z}(h:k<n)(q:hG[k]?=some (some f))(y:k≠0/\k≠51):I w n k z j=nC aj (I w k) w f z j:=by refine J (dx h) (J xG ?_);refine(if_pos rfl).trans ((if_neg y.1).trans ?_);refine(if_neg y.2).trans (J q ?_);rfl
def bu(r:dc)(v:V)(z:af):Prop:=∃y,r=some (.b v,y,z)
@[simp]theorem U7{v y}:bu (some (.b v,j,q)) y z↔v=y/\q=z:=by
 constructor;. rintro⟨_,h⟩;simp at h;exact⟨h.1,h.2.2⟩
 . rintro⟨rfl,rfl⟩;exact⟨_,rfl⟩
@[simp]theorem U6{c:Prop} [Decidable c]{v}:bu (if c then a else b) v z↔(c->bu a v z)/\(¬c->bu b v z):=by by_cases h:c<;>simp [h]
theorem aK{w}{z}{v}(h:dP G j w z g o FT=some (.b v,[],y)):bu (aI G j w z g o) v y:=by rw [xK]at h;induction e:aI G j w z g o with|none=>rw [e]at h;exact C h|some q=>rw [e]at h;obtain⟨d,f,c⟩:=q;induction d with|b u=>cases h;exact⟨_,rfl⟩|a=>exact C h|c=>exact C h
theorem aS{w}{j}{v}(h:az G u w s g o=some (.a,z,y))(k:bu (aI G u w j z y) v q):bu (aI G u w (s::j) g o) v q:=by refine J cU (J h ?_);exact k
theorem fe{w}{y}{v}(h:bu (az G q w s j u) v z):bu (aI G q w (s::y) j u) v z:=by refine av h λg e=>?_;refine J cU (J e ?_);exact⟨_,rfl⟩
noncomputable def ab(b:List aY)(i:Nat):aY:=b.getD i (.d ⟨0,0,0,0⟩)
@[simp]theorem Qr{b}:ab (s::b) 0=s:=rfl
@[simp]theorem Qq{b}:ab (s::b) (i+1)=ab b i:=rfl
theorem ct{w n k}{y}{v q}(h:k<n)(j:hG[k]?=some (some f))(u:k≠0/\k≠51)(g:f.e=0)(o:y.length=f.a)(d:c_ 0 y=true)(e:bu (aI aj (I w k) w f.c (cu f y) []) v z)(c:cP 0 z v=some q):I w n k y m=some (q,m):=by refine av e λp e=>?_;refine(u_ h j u).trans ((if_pos o).trans ?_);refine J g ?_;refine(if_pos d).trans ?_;unfold nu;unfold cu at e;refine J e (?_:(cP 0 z v).map _=_);exact J c rfl
theorem bm{y:Type}{z:y->Prop}{a}{l}(h:z a)(t:∀x∈l,z x):∀x∈a::l,z x:=List.forall_mem_cons.mpr ⟨h,t⟩
theorem fT{z:Type}{y:z->Prop}:∀x∈([]:List z),y x:=λO h=>absurd h fY
theorem RO{y:Type}{z:y->Prop}{a b:List y}(q:∀x∈a,z x)(j:∀x∈b,z x):∀x∈a++b,z x:=λx u=>(cr.mp u).elim (q x) (j x)
theorem kz{z:Type}{n}{f}(y:∀a,dB n (f a)=true):∀l:List z,c_ n (l.map f)=true:=by intro q;induction q with|nil=>exact rfl|cons a l j=>exact cy (y a) (j)
theorem yS s:dB 0 (.a s)=true:=rfl
@[simp]theorem lq l:dB 0 (ah l)=true:=kz yS l
theorem Hm n l:dB n (ah l)=true:=kz (λO=>rfl) l
@[simp]theorem oZ(l:A):dB 0 l.l=true:=cy (lq _) rfl
@[simp]theorem jU(l:List A):dB 0 (aU l)=true:=kz oZ l
theorem ub(n k:Nat):h_ n (k:Int)=min k n:=by unfold h_;refine J (if_neg (iH (fw k))) ?_;exact(Nat.le_total k n).elim (λh=>J (Int.min_eq_left (g_.mpr h)) (J (Int.max_eq_right (fw k)) (lk h).symm)) λh=>J (Int.min_eq_right (g_.mpr h)) (J (Int.max_eq_right (fw n)) (na h).symm)
theorem pW(l:List z)(k:Nat):ce l none (some (k:Int))=l.take k:=by
 unfold ce;simp only [Option.elim];refine J (ub _ _) ?_;by_cases h:k<=l.length;. refine J (lk h) ?_;simp
 . refine J (na (bC (gA h))) (J (jg (by simp)) ?_);exact J (jg (bC (gA h))) rfl
theorem Qc(l:List z)(k:Nat):ce l (some (k:Int)) none=l.drop k:=by
 unfold ce;simp only [Option.elim];refine J (ub _ _) ?_;by_cases h:k<=l.length;. refine J (lk h) (J (jg (by simp)) ?_);rfl
 . refine J (na (bC (gA h))) (J (oE (aH _)) ?_);refine J (oE (bC (gA h))) ?_;simp
@[simp]theorem Ej(x:z)l:ce (x::l) none (some 1)=[x]:=pW (x::l) 1
@[simp]theorem Qd(x:z)l:ce (x::l) (some 1) none=l:=Qc (x::l) 1
theorem ik(l:List z)(k:Nat):bM l (k:Int)=l[k]?:=by exact(if_pos (fw k)).trans rfl
@[simp]theorem xr(x:z)l:bM (x::l) 0=some x:=ik (x::l) 0
@[simp]theorem Vd(x y:z)l:bM (x::y::l) 1=some y:=ik (x::y::l) 1
@[simp]theorem OM(x y z:q)l:bM (x::y::z::l) 2=some z:=ik (x::y::z::l) 2
theorem mA l(x:z):bM (l++[x]) (-1)=some x:=by unfold bM;refine J (if_neg (by decide)) (J (if_pos (by simp;exact cY.mpr (gY (Nat.succ 0) (List.length l)))) ?_);refine J (show((-1)+((l++[x]).length:Int)).toNat=l.length by simp;lia) ?_;simp
theorem pw w n(h:1<n)(r:cT)z:I w n 1 [.a r.b] z=some (.b r.a,z):=by refine J (dx h) ?_;induction r<;>rfl
theorem Ic w n(h:1<n)(i:fl)z:I w n 1 [.a i.b] z=some (.b (-1),z):=by refine J (dx h) ?_;induction i<;>rfl
theorem zJ w n(h:1<n)z:I w n 1 [.a [116,49]] z=some (.b 6,z):=pw w n h .d z
theorem Jr(r:B):bD (match(aj 1)with|some (.e d)=>d|_=>[]) (.a (37::r))=none:=by
 have:((match(aj 1)with|some (.e d)=>d|_=>[]).all λe=>match e.1 with|.a (c::_)=>c !=37|.a []=>true|_=>true)=true:=by decide+kernel
 refine J (propext x_) (J (propext sF) ?_);intro e z h;have q:=cs.mp this e z;have h:e.1=.a (37::r):=by simpa using h
 rw [h]at q;exact am q
theorem Ie w n(h:1<n)(r:B)z:I w n 1 [.a (37::r)] z=some (.b (-1),z):=by refine J (sp h) (ct (f:=B9) (li 1) rfl (by decide) rfl rfl rfl (z:=[]) (v:=.b (-1)) ?_ rfl);have e:aj 1=some (.e (match(aj 1)with|some (.e d)=>d|_=>[])):=rfl;have q:=Jr r;revert q e;generalize(match(aj 1)with|some (.e d)=>d|_=>[])=D;intro e q;exact aK rfl
noncomputable def d':an->Bool|.a i=>(match i with|.d ..=>false|.i ..=>false|.g ..=>false|.c ..=>false|.f ..=>false|.b ..=>false|.e _=>true|.k=>false|.j=>false|.l=>false|.o _=>false|.p _=>false|.n _=>false|.m _=>false)|.d _=>false|.g=>false|.f _=>false|.e _=>false|.c _=>false
noncomputable def jY:an->Bool|.a i=>(match i with|.d ..=>false|.i ..=>false|.g ..=>false|.c ..=>false|.f ..=>false|.b ..=>true|.e _=>false|.k=>false|.j=>false|.l=>false|.o _=>false|.p _=>false|.n _=>false|.m _=>false)|.d _=>false|.g=>false|.f _=>false|.e _=>false|.c _=>false
noncomputable def fR:an->Bool|.a i=>(match i with|.d ..=>false|.i ..=>false|.g ..=>false|.c ..=>false|.f ..=>false|.b ..=>false|.e _=>true|.k=>true|.j=>true|.l=>false|.o _=>false|.p _=>false|.n _=>false|.m _=>false)|.d _=>false|.g=>false|.f _=>false|.e _=>false|.c _=>false
theorem tZ w n(h:5<n)(l:A)z:I w n 5 [l.l] z=some (.h (d' l.2),z):=by refine J (dx h) ?_;obtain⟨s,r⟩:=l;induction r with
|a i=>induction i with|g o=>induction o<;>rfl|c o=>induction o<;>rfl|f o=>induction o<;>rfl|b o=>induction o<;>rfl|_=>rfl
|_=>rfl
theorem zE w n(h:6<n)(l:A)z:I w n 6 [l.l] z=some (.h (jY l.2),z):=by refine J (dx h) ?_;obtain⟨s,r⟩:=l;induction r with
|a i=>induction i with|g o=>induction o<;>rfl|c o=>induction o<;>rfl|f o=>induction o<;>rfl|b o=>induction o<;>rfl|_=>rfl
|_=>rfl
theorem II w n(h:7<n)(l:A)z:I w n 7 [l.l] z=some (.h (fR l.2),z):=by refine J (dx h) ?_;obtain⟨s,r⟩:=l;induction r with
|a i=>induction i with|g o=>induction o<;>rfl|c o=>induction o<;>rfl|f o=>induction o<;>rfl|b o=>induction o<;>rfl|_=>rfl
|_=>rfl
theorem zG w n(h:21<n)(i:fl)z:I w n 21 [.a i.b] z=some (.b i.a,z):=by refine J (dx h) ?_;induction i<;>rfl
theorem Cf{p}{x}{l:B}(h:p x=false):(x::l).dropWhile p=x::l:=by simp [h]
theorem Qz{p}{x y:Nat}{l:B}(h:p x=false)(z:p y=false):dI p (x::l++[y])=x::l++[y]:=by unfold dI;rw [hx,Cf h,List.reverse_cons,oJ];rw [ya,lT,hx,Cf z];simp
theorem zH w n(h:21<n)(r:B)z:I w n 21 [.a (37::r++[41])] z=some (.j,z):=by
 refine J (sp h) ?_;have y:dI (λx=>[48,49,50,51,52,53,54,55,56,57].contains x) (37::r++[41])=37::r++[41]:=Qz (by decide) (by decide);refine ct (f:=Ab) (li _) rfl (by decide) rfl rfl (by simp [c_,dB]) (z:=[]) (v:=.j) ?_ rfl;have q:(ce (37::r++[41]) none (some 1)==[45])=false:=by rw [hx,Ej];rfl
 have j:(!(dI (λx=>[48,49,50,51,52,53,54,55,56,57].contains x) (37::r++[41])==[]))=true:=by rw [y];rfl
 exact aK ((as q) (hT (λO=>rfl) λO=>(aZ j) rfl))
abbrev db:=List (Nat×Int)
noncomputable def es(z:db):List (aD×aD):=z.map λe=>(.b (e.1:Int),.b e.2)
noncomputable def cf(z:db)(r:Nat):Option Int:=(z.find? λe=>e.1=r).map (λO=>O.2)
noncomputable def jn:db->Nat->Int->db|[],r,v=>[(r,v)]|e::K,r,v=>if e.1=r then(r,v)::K else e::jn K r v
theorem wq{z:db}{v}:jn (e::z) r v=if e.1=r then(r,v)::z else e::jn z r v:=rfl
noncomputable def eO:db->Nat->db|[],_=>[]|e::K,r=>if e.1=r then K else e::eO K r
theorem uE{z:db}:eO (e::z) r=if e.1=r then z else e::eO z r:=rfl
theorem ys{a b:Nat}:((aD.b (a:Int)=aD.b (b:Int)):Prop)↔a=b:=by exact J (aD.b.injEq _ _) Int.natCast_inj
@[simp]theorem uf(z:db)(r:Nat):bD (es z) (.b (r:Int))=(cf z r).map .b:=by unfold bD cf es;induction z with|nil=>rfl|cons e z y=>
simp only [List.map_cons,List.find?_cons,ys];by_cases h:e.1=r;. simp [h]
. simp only [h,decide_false];exact y
@[simp]theorem Jv:∀(z:db)(r:Nat)(v:Int),fh (es z) (.b (r:Int)) (.b v)=es (jn z r v):=by intro y;induction y with|nil=>intro r v;exact rfl|cons e z q=>
intro r v;refine(?_:(if aD.b (e.1:Int)=aD.b (r:Int)then _ else _)=es (if e.1=r then _ else _));simp only [ys];by_cases h:e.1=r;. simp [h,es]
. simp only [h,if_false];exact J (q r v) rfl
@[simp]theorem Jm:∀(z:db)(r:Nat),kw (es z) (.b (r:Int))=es (eO z r):=by intro y;induction y with|nil=>intro r;exact rfl|cons e z q=>
intro r;refine(?_:(if aD.b (e.1:Int)=aD.b (r:Int)then _ else _)=es (if e.1=r then _ else _));simp only [ys];by_cases h:e.1=r;. simp [h,es]
. simp only [h,if_false];exact J (q r) rfl
theorem LX z r v:(jn z r v).length<=z.length+1:=by induction z with|nil=>exact aH _|cons e z y=>
refine J wq ?_;split;. exact e_ _
. exact nf y
theorem wn z r:(eO z r).length<=z.length:=by induction z with|nil=>exact aH _|cons e z y=>
refine J uE ?_;split;. exact e_ _
. exact nf y
theorem I2 z:(es z).length=z.length:=by simp [es]
def fV(i:aQ)(z:db):Option (Nat×Int):=match i with|.d d a n=>(cf z a.a).map λv=>(d.a,(v+n.a)%dg)|.i d n=>some (d.a,n.a*4096%dg)|.g ..=>none|.c ..=>none|.f ..=>none|.b ..=>none|.e _=>none|.k=>none|.j=>none|.l=>none|.o _=>none|.p _=>none|.n _=>none|.m _=>none
def uj:Option (Nat×Int)->V|none=>.j|some (r,v)=>.g [.b r,.b v]
def cD:aQ->Int|.d d ..=>d.a|.i d _=>d.a|.g _ d ..=>d.a|.c ..=>-1|.f _ d _=>d.a|.b ..=>-1|.e _=>-1|.k=>-2|.j=>-2|.l=>-2|.o _=>-2|.p _=>-2|.n _=>6|.m _=>6
def ho:aQ->Bool|.d d a n=>(d.a==a.a||d.a==0)&&(n.a==0||d.a==0)|.i ..=>false|.g o d a b=>(match o with|.a=>(d.a==a.a||d.a==0)&&(b.a==0||d.a==0)|.c|.f|.b|.e=>false)|.c ..=>false|.f ..=>false|.b ..=>false|.e _=>false|.k=>false|.j=>false|.l=>false|.o _=>false|.p _=>false|.n _=>false|.m _=>false
def Af(d:cT)(m:eS):aQ->Option aQ|.d ..=>none|.i ..=>none|.g ..=>none|.c w v z=>(match w with|.c=>if m=z then some (.d d v .c)else none|.d|.e=>none)|.f ..=>none|.b ..=>none|.e _=>none|.k=>none|.j=>none|.l=>none|.o _=>none|.p _=>none|.n _=>none|.m _=>none
noncomputable def hK(i:aQ)(a:Option aQ):Option aQ:=match i with|.d ..=>none|.i ..=>none|.g ..=>none|.c ..=>none|.f w d m=>(match w with|.a=>a.bind (Af d m)|.c|.d=>none)|.b ..=>none|.e _=>none|.k=>none|.j=>none|.l=>none|.o _=>none|.p _=>none|.n _=>none|.m _=>none
def Op(d:cT)(n:fl)(z:db):an->Bool|.a i=>(match i with|.d y q m=>decide (d.a>0/\y.a=d.a/\q.a=d.a)&&(cf z d.a==some ((n.a*4096%dg+m.a)%dg))|.i ..=>false|.g ..=>false|.c ..=>false|.f ..=>false|.b ..=>false|.e _=>false|.k=>false|.j=>false|.l=>false|.o _=>false|.p _=>false|.n _=>false|.m _=>false)|.d _=>false|.g=>false|.f _=>false|.e _=>false|.c _=>false
def fA(i:aQ)(z:Option an)(y:db):Bool:=match i with|.d ..=>false|.i d n=>(match z with|some r=>Op d n y r|none=>false)|.g ..=>false|.c ..=>false|.f ..=>false|.b ..=>false|.e _=>false|.k=>false|.j=>false|.l=>false|.o _=>false|.p _=>false|.n _=>false|.m _=>false
def ei(i:aQ)(z:db):db:=if cD i=-2 then [(0,0)]else if cD i>0 then(match fV i z with|some (_,v)=>jn (eO z (cD i).toNat) (cD i).toNat v|none=>eO z (cD i).toNat)else z
theorem oc{v}(h:z[c]?=some v):aO z (.c c)=v:=by refine(?_:z.getD c .i=v);refine J hY ?_;exact J h rfl
theorem Bc{w n k}{q}{v j}(h:k<n)(u:hG[k]?=some (some f))(g:k≠0/\k≠51)(o:f.e=1)(d:q.length=f.a)(e:bu (aI aj (I w k) w f.c (cu f q) y) v z)(c:eC y.length (z.take y.length)=true)(m:cP y.length z v=some j):I w n k q y=some (j,z.take y.length):=by refine av e λp e=>?_;refine(u_ h u g).trans ((if_pos d).trans ?_);refine J o ?_;unfold nu;unfold cu at e;refine J e ?_;refine(if_pos c).trans ?_;exact J m rfl
theorem zM{w n k}{y}{v q}(h:k<n)(j:hG[k]?=some (some f))(u:k≠0/\k≠51)(g:f.e=1)(o:y.length=f.a)(d:eC z.length z=true)(e:bu (aI aj (I w k) w f.c (cu f y) z) v z)(c:cP z.length z v=some q):I w n k y z=some (q,z):=by have:=Bc (w:=w) (n:=n) h j u g o e (by exact J sP d) c;rwa [sP]at this
theorem pj(x:Int):x.fmod 4294967296=x%4294967296:=jL _ (by decide)
@[simp]theorem VP:cw 4294967296=true:=by decide
theorem Qg(n:fl):cw n.a=true:=by induction n<;>decide
theorem ES{n}a b:cP n z (.g [.b a,.b b])=some (.g [.b a,.b b]):=rfl
theorem uW{n}:cP n z .j=some .j:=rfl
def Gc(i:aQ):Prop:=(∃d m,i=.i d m)\/∃l,i=.n l
def Gf(i:aQ):Prop:=(∃d a m,i=.d d a m)\/∃l,i=.m l
theorem wv(h:(z.a==[108,117,105])=true):Gc z:=by induction z with|i d m=>exact .inl (ax d m rfl)|n l=>exact .inr ⟨l,rfl⟩|g o=>induction o<;>exact am h|c o=>induction o<;>exact am h|f o=>induction o<;>exact am h|b o=>induction o<;>exact am h|_=>exact am h
theorem yE(h:(i.a==[97,100,100,105])=true):Gf i:=by induction i with|d z a y=>exact .inl (dK z a y rfl)|m l=>exact .inr ⟨l,rfl⟩|g o=>induction o<;>exact am h|c o=>induction o<;>exact am h|f o=>induction o<;>exact am h|b o=>induction o<;>exact am h|_=>exact am h
theorem Q4{z}(y:(i.a==[108,117,105])=false)(q:(i.a==[97,100,100,105])=false):fV i z=none:=by induction i<;>first|rfl|exact am y.symm|exact am q.symm
theorem Lj{y}{c}{z}{r:Nat}(h:aO y (.c c)=.e (es z)):bp y .In (.b (r:Int)) (.c c)=some (cf z r).isSome:=by refine(?_:bp.z _ (aO y (.c c))=_);refine J h (?_:some (bD (es z) (.b r)).isSome=_);refine J (uf _ _) ?_;induction cf z r<;>rfl
theorem L5{z}{v}(h:aO y (.c c)=.e (es z))(q:cf z r=some v):a_ y (.c c) (.b (r:Int))=some (.b v):=by refine(L6 h).trans (J (uf _ _) ?_);exact J q rfl
theorem Nj(m:fl):cZ z .Mult (.b m.a) (.b 4096)=some (.b (m.a*4096)):=pt (Qg m) rfl
theorem EC:(some (.b (.g [a,.b (x.fmod 4294967296)]),[],z):dc)=some (.b (.g [a,.b (x%dg)]),[],z):=by exact J (pj _) rfl
theorem zK w n(h:22<n)s i q z c(x:z[c]?=some (.e (es q)))(Q:eC z.length z=true):I w n 22 [A.l (s,.a i),.c c] z=some (uj (fV i q),z):=by
 refine J (sp h) ?_;have t:=oc x;have y:∀{v k:V},bu (aI aj (I w 22) w Bz (cu tN [A.l (s,.a i),.c c]) z) v z->cP z.length z v=some k->I w 23 22 [A.l (s,.a i),.c c] z=some (k,z):=λe Z=>zM (f:=tN) (li _) rfl (by decide) rfl rfl Q e Z;have j:=λr=>pw w 22 (by decide) r;have g:=λr=>zG w 22 (by decide) r;have b:=λr=>zH w 22 (by decide) r
 induction o:(i.a==[108,117,105])with|true=>
 rcases wv o with⟨d,m,rfl⟩|⟨l,rfl⟩;. exact y (aK ((H (g m _)) ((H (j d _)) ((N (Nj m)) EC)))) (ES _ _)
 . refine y (v:=.j) (aK ?_) uW
   exact(H (b ([104,105,40]++l) z)) rfl|false=>induction f:(i.a==[97,100,100,105])with|true=>
rcases yE f with⟨d,a,m,rfl⟩|⟨l,rfl⟩;. refine(?_:_=some (uj ((cf q a.a).map λv=>(d.a,(v+m.a)%dg)),z));have u:=Lj (r:=a.a) t;induction p:cf q a.a with|none=>rw [p]at u;exact y (v:=.j) (aK ((H (g m _)) ((H (j a _)) ((eJ u) rfl)))) uW|some v=>rw [p]at u;exact y (aK ((H (g m _)) ((H (j a _)) ((eJ u) ((H (j d _)) ((N (L5 t p)) EC)))))) (ES _ _)
. refine y (v:=.j) (aK ?_) uW;refine(H (b ([108,111,40]++l) z)) ?_;exact(H (zJ w 22 (by decide) z)) rfl|false=>exact J (Q4 o f) (y (v:=.j) (aK ((as o) ((as f) rfl))) uW)
theorem Ro l:qh (l.map .a)=some l:=by induction l with|nil=>rfl|cons x l z=>refine(?_:(qh (l.map .a)).map (λO=>x::O)=_);exact J z rfl
theorem um z:∀l,(cm z l).length<=(l.map (λO=>O.length)).sum+l.length*z.length|[]=>eT _|[x]=>ac (bw x.length 0) (bw _ _)|x::y::l=>by have:=um z (y::l);simp only [CM,List.length_append,List.map_cons,List.sum_cons,List.length_cons]at this⊢;have e:(l.length+1+1)*z.length=(l.length+1)*z.length+z.length:=Nat.succ_mul _ _;lia
theorem vo{v}{l}(h:aO y v=.d (l.map .a))(q:(l.map λx:B=>x.length).sum+l.length*z.length<ak):cN y .m (.a z) [v]=some (.a (cm z l),y):=by refine(?_:(aO y v).p.bind _=_);refine J h (?_:(qh (l.map .a)).bind _=_);exact J (Ro _) (if_pos q)
theorem Is w n(h:4<n)j l(o:j.length+(l.map (λO=>O.length)).sum+2*l.length<1000)q:I w n 4 [.a j,ah l] q=some (.k [.a ([9]++j++[32]++cm [44,32] l),.a [99,111,100,101],.a j,ah l],q):=by
 have d:=um [44,32] l;have g:=au (ac (bw _ _) (bw _ _)) o;have L:ak=1000000:=rfl;simp only [List.length_cons,List.length_nil]at d;refine ct (f:=zq) h rfl (by decide) rfl rfl (by simp [c_,dB]) (z:=[]) (v:=.k [.a ([9]++j++[32]++cm [44,32] l),.a [99,111,100,101],.a j,ah l]) ?_ ?_
 . have c:cN [] .m (.a [44,32]) [V.d (l.map .a)]=some (.a (cm [44,32] l),[]):=vo rfl (by simp only [List.length_cons,List.length_nil];lia);have f:∀u q,I w 4 0 u q=yA u q:=λu q=>by exact J (dx (by decide)) rfl
   have m:∀q,cZ q .Add (.a [9]) (.a j)=some (.a ([9]++j)):=λq=>jB (lX (ng g 1) (by decide));have p:∀q,cZ q .Add (.a ([9]++j)) (.a [32])=some (.a ([9]++j++[32])):=λq=>jB (by rw [dN];exact lX (Nat.add_lt_add_right (ng g 1) 1) (by decide));have t:∀q,cZ q .Add (.a ([9]++j++[32])) (.a (cm [44,32] l))=some (.a ([9]++j++[32]++cm [44,32] l)):=λq=>jB (by simp;lia);have r:∀q,ek q .m (.a [44,32])=true:=λq=>rfl;generalize [9]++j++[32]++cm [44,32] l=x at*;generalize [9]++j++[32]=y at*;generalize [9]++j=z at*;exact aK ((N (m _)) ((N (p _)) ((H c) ((N (t _)) ((H (f _ _)) rfl)))))
 . simp [cP,dB,c_]
theorem A8 w n(h:0<n)a b c d z:I w n 0 [a,b,c,d] z=some (.k [a,b,c,d],z):=by exact J (dx h) rfl
def aQ.q(z:aQ):Nat:=z.a.length+(z.h.map (λO=>O.length)).sum+2*z.h.length
theorem tY w n(h:4<n)i(y:i.q<1000)z:I w n 4 [.a i.a,ah i.h] z=some (A.l (0,.a i),z):=Is w n h i.a i.h y z
theorem Ig w n(h:25<n)s y q:I w n 25 [A.l (s,.a y)] q=some (.b (cD y),q):=by refine J (dx h) ?_;induction y with|d z=>induction z<;>kernel_rfl|i z=>induction z<;>kernel_rfl|g o z=>induction o<;>induction z<;>kernel_rfl|f o z=>induction o<;>induction z<;>kernel_rfl|c o=>induction o<;>kernel_rfl|b o=>induction o<;>kernel_rfl|_=>kernel_rfl
theorem Jf{f}{z q}(h:z=q):fL f (λO y=>some (true,y)) [] z y=some (q,y):=by subst h;rfl
theorem zR{f}{x z}{j q}(h:f x y=some (z,y))(u:q.length<ak)(k:fL f (λO y=>some (true,y)) j (q++[z]) y=r):fL f (λO y=>some (true,y)) (x::j) q y=r:=by refine AO.trans (?_:(f x y).bind _=r);refine J h ?_;exact(if_pos u).trans k
theorem Je{w o d p c m t}{q j}(r:aM G y u g z pc=some (.d q,z))(v:fL (λx z=>y f [x] z) (λO z=>some (true,z)) q [] z=some (j,z)):(aT G y (.d false (.g f [.c 0 c] m t) x w 0 [u] o d [] k p) g).1 z=some (.d j,z):=by refine zl.trans (?_:(((aT G y u g).1 z).bind _:Option (List V×af)).bind _=_);refine J (zo _) (J r ?_);refine(?_:Option.bind (fL (λx z=>y f [x] z) (λO z=>some (true,z)) q [] z) _=_);exact J v rfl
theorem oa(a b:Nat):((a:Int)==(b:Int))=(a==b):=by refine J (propext lc) (J (propext ez) ?_);refine J (propext ez) ?_;lia
theorem ef(a:Nat):((a:Int)==0)=(a==0):=oa a 0
theorem iP(a b:Nat):decide ((if(b:Int)<(a:Int)then(b:Int)else(a:Int))<0)=false:=by refine e' ?_;split<;>exact iH (fw _)
theorem Kv{a:Nat}(h:(a==0)=false):decide ((a:Int)>0)=true:=em (cY.mpr (sA (dA.mp h)))
theorem CC{a:Nat}(h:(a==0)=false):(some (.b (.h (decide ((a:Int)>0))),[],[]):dc)=some (.b (.h true),[],[]):=by exact J (Kv h) rfl
theorem jC{a b:Int}{t}(h:(a==b)=t):(!(a==b))=!t:=aJ _ h
theorem iT{w}{z y q p j u g}(o:I w 23 1 [d] []=some (c,[]))(f:I w 23 1 [m] []=some (t,[]))(r:I w 23 1 [v] []=some (k,[]))(b:aM aj (I w 23) e i [] pc=some (.d [d,m,v],[])):(aT aj (I w 23) (.d false (.g 1 [.c 0 j] u g) x z 0 [e] y q [] l p) i).1 []=some (.d [c,t,k],[]):=Je b (zR o (by decide) (zR f (by decide:1<ak) (zR r (by decide:2<ak) (Jf rfl))))
theorem Iy w n(h:23<n)s i p:I w n 23 [A.l (s,.a i)] p=some (.h (ho i),p):=by
 have u:∀f,bu (aI aj (I w 23) w Bs (cu zr [A.l (s,.a i)]) []) (.h f) []->I w n 23 [A.l (s,.a i)] p=some (.h f,p):=λf e=>ct (f:=zr) h rfl (by decide) rfl rfl (cy (oZ _) rfl) e rfl;have Z:=λr p=>zG w 23 (by decide) r p;have y:=λr p=>pw w 23 (by decide) r p;have Y:=λr p=>Ic w 23 (by decide) r p;by_cases k:eD (.a i.a) [.a [97,100,100],.a [97,100,100,105]]=some false
 . have Q:ho i=false:=by clear u;induction i with
|g o=>induction o<;>first|rfl|cases k
|d=>cases k|_=>rfl
   refine J Q (u _ ?_);have U:jG (A.l (s,.a i)) 2=some (.a i.a):=rfl;clear u;generalize A.l (s,.a i)=v at*;generalize i.a=x at*;have G:(!([97,100,100]==x||([97,100,100,105]==x||false)))=true:=aJ (λO=>!O) (ag k);exact aK ((N U) ((aZ G) rfl))
 . induction i with
|d z a t=>refine u _ (?_:bu _ (.h ((z.a==a.a||z.a==0)&&(t.a==0||z.a==0))) []);induction q:(z.a==a.a)with
 |true=>have q:=jC ((oa _ _).trans q);induction g:(t.a==0)with|true=>exact aK (H (iT (y z _) (y a _) (Y t _) rfl) ((as (iP z.a a.a)) ((as q) ((H (Z _ _)) ((aZ g) (by exact J g rfl))))))|false=>induction j:(z.a==0)with|true=>exact aK (H (iT (y z _) (y a _) (Y t _) rfl) ((as (iP z.a a.a)) ((as q) ((H (Z _ _)) ((as g) ((aZ ((ef _).trans j)) ((H (Z _ _)) rfl)))))))|false=>exact aK (H (iT (y z _) (y a _) (Y t _) rfl) ((as (iP z.a a.a)) ((as q) ((H (Z _ _)) ((as g) ((as ((ef _).trans j)) (by refine J (ef _) (J j ?_);rfl)))))))
 |false=>have q:=jC ((oa _ _).trans q);induction j:(z.a==0)with
 |true=>have j:=(ef _).trans j;induction g:(t.a==0)with|true=>exact aK (H (iT (y z _) (y a _) (Y t _) rfl) ((as (iP z.a a.a)) ((aZ q) ((as (jC j)) ((H (Z _ _)) ((aZ g) (by exact J g rfl)))))))|false=>exact aK (H (iT (y z _) (y a _) (Y t _) rfl) ((as (iP z.a a.a)) ((aZ q) ((as (jC j)) ((H (Z _ _)) ((as g) ((aZ j) ((H (Z _ _)) rfl))))))))
 |false=>exact aK (H (iT (y z _) (y a _) (Y t _) rfl) ((as (iP z.a a.a)) ((aZ q) ((aZ (jC ((ef _).trans j))) rfl))))
|g o z a f=>induction o with
 |a=>refine u _ (?_:bu _ (.h ((z.a==a.a||z.a==0)&&(f.a==0||z.a==0))) []);induction q:(z.a==a.a)with
  |true=>have q:=jC ((oa _ _).trans q);induction g:(f.a==0)with|true=>exact aK (H (iT (y z _) (y a _) (y f _) rfl) ((as (iP z.a a.a)) ((as q) ((aZ ((ef _).trans g)) (by refine J (ef _) (J g ?_);rfl)))))|false=>induction j:(z.a==0)with|true=>exact aK (H (iT (y z _) (y a _) (y f _) rfl) ((as (iP z.a a.a)) ((as q) ((as ((ef _).trans g)) ((aZ ((ef _).trans j)) (CC g))))))|false=>exact aK (H (iT (y z _) (y a _) (y f _) rfl) ((as (iP z.a a.a)) ((as q) ((as ((ef _).trans g)) ((as ((ef _).trans j)) (by refine J (ef _) (J j ?_);rfl))))))
  |false=>have q:=jC ((oa _ _).trans q);induction j:(z.a==0)with
  |true=>have j:=(ef _).trans j;induction g:(f.a==0)with|true=>exact aK (H (iT (y z _) (y a _) (y f _) rfl) ((as (iP z.a a.a)) ((aZ q) ((as (jC j)) ((aZ ((ef _).trans g)) (by refine J (ef _) (J g ?_);rfl))))))|false=>exact aK (H (iT (y z _) (y a _) (y f _) rfl) ((as (iP z.a a.a)) ((aZ q) ((as (jC j)) ((as ((ef _).trans g)) ((aZ j) (CC g)))))))
  |false=>exact aK (H (iT (y z _) (y a _) (y f _) rfl) ((as (iP z.a a.a)) ((aZ q) ((aZ (jC ((ef _).trans j))) rfl))))
 |_=>exact absurd rfl k
|m l=>refine u false (aK (H (iT (zJ w 23 (by decide) _) (zJ w 23 (by decide) _) (Ie w 23 (by decide) ([108,111,40]++l++[41]) _) rfl) ?_));exact(H (zH w 23 (by decide) ([108,111,40]++l) _)) rfl|c o=>clear u;induction o<;>exact absurd rfl k|f o=>clear u;induction o<;>exact absurd rfl k|b o=>clear u;induction o<;>exact absurd rfl k|_=>exact absurd rfl k
noncomputable def lC:Option (Nat×aQ)->V|none=>.j|some (s,i)=>A.l (s,.a i)
noncomputable def pC:Option aQ->V|none=>.j|some i=>A.l (0,.a i)
theorem Hh o:dB 0 (lC o)=true:=by induction o with|none=>rfl|some o=>exact oZ _
theorem DG{m z:eS}(h:m.a=z.a):m=z:=by induction m<;>induction z<;>first|rfl|exact d_ h rfl
theorem Nc{m z:eS}:(m.a=z.a)=(m=z):=propext ⟨DG,aJ _⟩
theorem JO d v:(aQ.d d v .c).q<1000:=by induction d<;>induction v<;>decide
theorem uV{l:A}{z}:cP 0 z l.l=some l.l:=if_pos (oZ l)
def F'(i:aQ):Prop:=∃d m,i=.f .a d m
def GU(i:aQ):Prop:=∃v m,i=.c .c v m
theorem MF(h:(i.a==[108,119])=true):F' i:=by induction i with
|f o d m=>induction o with|a=>exact(ax d m rfl)|_=>exact am h
|g o=>induction o<;>exact am h|c o=>induction o<;>exact am h|b o=>induction o<;>exact am h|_=>exact am h
theorem QJ(h:(i.a==[115,119])=true):GU i:=by induction i with
|c o v m=>induction o with|c=>exact(ax v m rfl)|_=>exact am h
|g o=>induction o<;>exact am h|f o=>induction o<;>exact am h|b o=>induction o<;>exact am h|_=>exact am h
theorem JP{a}(h:(i.a==[108,119])=false):hK i a=none:=by induction i with
|f o=>induction o<;>first|rfl|exact am h.symm
|_=>rfl
theorem JQ(h:(j.a==[115,119])=false):Af d m j=none:=by induction j with
|c o=>induction o<;>first|rfl|exact am h.symm
|_=>rfl
theorem Iv w n(h:24<n)s i q y:I w n 24 [A.l (s,.a i),lC q] y=some (pC (hK i (q.map (λO=>O.2))),y):=by refine J (sp h) ?_;have z:∀{v:V},bu (aI aj (I w 24) w Br (cu tC [A.l (s,.a i),lC q]) []) v []->cP 0 [] v=some v->I w 25 24 [A.l (s,.a i),lC q] y=some (v,y):=λe p=>ct (f:=tC) (li _) rfl (by decide) rfl rfl (cy (oZ _) (cy (Hh _) rfl)) e p;induction q with|none=>exact J (show hK i (Option.map (λO=>O.2) (none:Option (Nat×aQ)))=none from by clear z;induction i with|f o=>(induction o<;>rfl)|_=>rfl) (z ⟨_,rfl⟩ rfl)|some o=>obtain⟨k,j⟩:=o;induction g:(i.a==[108,119])with|false=>exact J (JP g) (z (aK ((aZ (aJ (λO=>!O) g)) rfl)) rfl)|true=>refine go (MF g) λd m t=>?_;subst t;refine(?_:_=some (pC (Af d m j),y));induction c:(j.a==[115,119])with|false=>exact J (JQ c) (z (aK ((aZ (aJ (λO=>!O) c)) rfl)) rfl)|true=>refine go (QJ c) λv f r=>?_;subst r;refine(?_:_=some (pC (if m=f then some (.d d v .c)else none),y));induction u:(m.a==f.a)with|false=>exact J (if_neg λe=>dA.mp u (aJ eS.a e)) (z (aK ((aZ (aJ (λO=>!O) u)) rfl)) rfl)|true=>refine J (if_pos (DG (eq_of_beq u))) (z (aK ((as (aJ (λO=>!O) u)) ((H (pw w 24 (by decide) d _)) ((H (pw w 24 (by decide) v _)) ((as (iP d.a v.a)) ((H (tY w 24 (by decide) (.d d v .c) (JO d v) _)) rfl)))))) uV)
def cv(z:List A)(y:List db):af:=aU z::y.map λK=>.e (es K)
theorem Hi n d:dB n (.e d)=true:=rfl
theorem Hl n(l:A):dB n l.l=true:=cy (Hm n _) rfl
theorem Hk n l:dB n (aU l)=true:=kz (Hl n) l
theorem Hf n:∀z:List db,eC n (z.map λy=>.e (es y))=true:=by intro q;induction q with|nil=>exact rfl|cons O z j=>exact j
theorem BD n z y:eC n (cv z y)=true:=cy (Hk n z) (Hf n y)
theorem xq{z}(h:y[k]?=some z):(cv q y)[k+1]?=some (.e (es z)):=by refine J hw ?_;exact J h rfl
theorem Dv{y}:(cv z q).set (k+1) (.e (es y))=cv z (q.set k y):=by refine(?_:aU z::(q.map λy=>V.e (es y)).set k _=aU z::_);exact J List.map_set rfl
theorem OQ{z:Type}(l:List z)(k:Nat):bM l ((k:Int)+1)=l[k+1]?:=ik l (k+1)
theorem NS{n}{k z}(h:y[n]?=some (.e d))(q:jD k=true):cN y .y (.c n) [.f k,.f z]=some (.f ((bD d k).getD z),y.set n (.e (kw d k))):=by refine(?_:(y[n]?).bind _=_);exact J h (if_pos q)
theorem lu{n}(h:z[n]?=some (.e d))(y:jD k=true)(q:d.length<ak):eY z (.c n) (.f k) (.f x)=some (z.set n (.e (fh d k x))):=by refine(?_:(z[n]?).bind _=_);refine J h (?_:(if jD k&&decide (d.length<ak)then _ else none)=_);refine J y (J (em q) ?_);rfl
theorem PV i:cD i=-2\/cD i=-1\/∃r:Nat,cD i=(r:Int):=by induction i<;>first|exact .inl rfl|exact .inr (.inl rfl)|exact .inr (.inr ⟨_,rfl⟩)
section
variable{z:db}
theorem Mn(h:(cD i==-2)=true):ei i z=[(0,0)]:=if_pos (eq_of_beq h)
theorem Mm(h:(cD i==-2)=false)(y:decide (0<cD i)=false):ei i z=z:=(if_neg (dA.mp h)).trans (if_neg (lj y))
theorem LF(h:(cD i==-2)=false)(y:decide (0<cD i)=true):ei i z=match fV i z with|some (_,v)=>jn (eO z (cD i).toNat) (cD i).toNat v|none=>eO z (cD i).toNat:=(if_neg (dA.mp h)).trans (if_pos (bt y))
theorem OH:(some (.b (.c (cv y q).length),[],cv y q++[.e [(.b 0,.b 0)]]):dc)=some (.b (.c (q.length+1)),[],cv y (q++[[(0,0)]])):=by refine J (show(cv y q).length=q.length+1 from aJ (λO=>O+1) (bU _)) (J (show cv y q++[.e [(.b 0,.b 0)]]=cv y (q++[[(0,0)]])from aJ (λO=>_::O) (fz (l₂:=[[(0,0)]])).symm) ?_);rfl
end
theorem G6 w n(h:27<n)s i z y k q(f:y[k]?=some q)(Q:q.length<10000):∃b d,I w n 27 [A.l (s,.a i),.c (k+1)] (cv z y)=some (.c (b+1),cv z d)/\d[b]?=some (ei i q):=by
 have L:ak=1000000:=rfl;have p:=xq (q:=z) f;have j:∀{v:V}{u:af},bu (aI aj (I w 27) w Bq (cu tB [A.l (s,.a i),.c (k+1)]) (cv z y)) v u->I w n 27 [A.l (s,.a i),.c (k+1)] (cv z y)=some (v,u):=by rintro v u⟨W,e⟩;refine(u_ (f:=tB) h rfl (by decide)).trans (?_:(aI _ _ _ _ _ _).map _=_);exact J e rfl
 have m:=λU=>Ig w 27 (by decide) s i U;have c:=zK w 27 (by decide) s i q (cv z y) (k+1) p (BD _ _ _);induction g:(cD i==-2)with|true=>exact J (Mn g) (ax y.length (y++[[(0,0)]]) ⟨j (aK ((H (m _)) ((aZ g) OH))),by rw [iF (aH _),Nat.sub_self];rfl⟩)|false=>induction o:decide (0<cD i)with|false=>rw [Mm g o];exact(ax k y ⟨j (aK ((H (m _)) ((as g) ((H c) ((as o) rfl))))),f⟩)|true=>
rw [LF g o];have e:cD i=((cD i).toNat):=(Int.toNat_of_nonneg (Int.le_of_lt (bt o))).symm;generalize(cD i).toNat=r at e⊢;have l:(y.set k (eO q r))[k]?=some (eO q r):=kr (bo.mp f).1;have x:cN (cv z y) .y (.c (k+1)) [.b (cD i),.j]=some (.f ((bD (es q) (.b r)).getD .c),cv z (y.set k (eO q r))):=by rw [e,NS p rfl,Jm,Dv]
have Z:ek (cv z y) .y (.c (k+1))=true:=by refine(?_:qH (aO _ _)=true);rw [oc p];rfl
induction Y:fV i q with|none=>rw [Y]at c;exact(ax k (y.set k (eO q r)) ⟨j (aK ((H (m _)) ((as g) ((H c) ((aZ o) ((ft Z) ((H x) rfl))))))),l⟩)|some t=>
obtain⟨a,v⟩:=t;rw [Y]at c;have G:eY (cv z (y.set k (eO q r))) (.c (k+1)) (.b (cD i)) (.b v)=some (cv z (y.set k (jn (eO q r) r v))):=by refine J e (J (lu (xq l) rfl (by rw [I2];exact bl (au (wn q r) Q) (by decide))) ?_);refine J (Jv _ _ _) (J Dv ?_);exact J (List.set_set _) rfl
refine(ax k (y.set k (jn (eO q r) r v)) ⟨j (aK ((H (m _)) ((as g) ((H c) ((aZ o) ((ft Z) ((H x) ?_))))))),kr (bo.mp f).1⟩);exact(je G) rfl
theorem qc{z:List A}{p:Nat}{l}(h:z[p]?=some l):bM (z.map A.l) (p:Int)=some l.l:=by refine(ik _ _).trans (J hw ?_);exact J h rfl
theorem CI{z:List A}{p:Nat}{l}(h:z[p+1]?=some l):bM (z.map A.l) ((p:Int)+1)=some l.l:=by refine(OQ _ _).trans (J hw ?_);exact J h rfl
theorem LR(r:an):(r.i=[99,111,100,101])=(∃i,r=.a i):=by induction r with|a i=>exact propext ⟨λO=>⟨i,rfl⟩,λO=>rfl⟩|_=>exact propext ⟨λh=>d_ h rfl,λh=>h.elim λO e=>an.noConfusion e⟩
theorem E7{n m}{z}:fA (.i d n) (some (.a (.d y q m))) z=(decide (d.a>0/\y.a=d.a/\q.a=d.a)&&(cf z d.a==some ((n.a*4096%dg+m.a)%dg))):=rfl
theorem Pr{z}(h:(i.a==[108,117,105])=false):fA i r z=false:=by induction i<;>first|rfl|exact am h.symm
theorem Pq{z}(h:(r.i==[99,111,100,101])=false):fA y (some r) z=false:=by induction y with
|i d m=>induction r<;>first|rfl|exact am h.symm
|_=>rfl
theorem Pp{z}(h:(j.a==[97,100,100,105])=false):fA (.i d m) (some (.a j)) z=false:=by induction j<;>first|rfl|exact am h.symm
theorem Po{z}(h:decide ((y.a:Int)<=0)=true):fA (.i y m) (some (.a j)) z=false:=by induction j with|d u g q=>refine E7.trans (J (e' (λe=>iH (bt h) (cY.mpr e.1))) ?_);rfl|_=>rfl
theorem RV{r:an}(h:(r.i==[99,111,100,101])=true):∃j,r=.a j:=by induction r with|a j=>exact⟨j,rfl⟩|_=>exact am h
theorem RQ(h:0<=x):(o.getD (-1)==x)=(o==some x):=by induction o with|none=>exact dA.mpr (λe=>by rw [<-e]at h;exact absurd h (by decide))|some v=>rfl
theorem N_(h:z[c]?=some (.e d)):ek z .t (.c c)=true:=by refine(?_:qH (aO z (.c c))=true);exact J (oc h) rfl
theorem K1{y}{c}{q}{r:Nat}{z}(h:y[c]?=some (.e (es q))):cN y .t (.c c) [.b r,.b z]=some (.b ((cf q r).getD z),y):=by refine(?_:(aO y (.c c)).r.bind _=_);refine J (oc h) (?_:(if jD (.b (r:Int))=true then some (V.f ((bD (es q) (.b r)).getD (.b z)),y)else none)=_);refine J (uf _ _) ?_;induction cf q r<;>rfl
theorem H3 w n(h:26<n)(o:List A)(p:Nat)s i(Q:o[p]?=some (s,.a i))v u c(G:u[c]?=some (.e (es v)))(L:eC u.length u=true):I w n 26 [aU o,.b p,.c c] u=some (.h (fA i ((o[p+1]?).map (λO=>O.2)) v),u):=by refine J (sp h) ?_;have g:∀{b:Bool},bu (aI aj (I w 26) w Bt (cu tD [aU o,.b p,.c c]) u) (.h b) u->I w 27 26 [aU o,.b p,.c c] u=some (.h b,u):=λe=>zM (f:=tD) (li _) rfl (by decide) rfl rfl L e (rfl);have z:=qc Q;induction x:o[p+1]? with|none=>exact J (show fA i (Option.map (λO=>O.2) (none:Option A)) v=false from by clear z Q;induction i<;>rfl) (g (aK ((aZ (em (by refine J (bU _) ?_;exact g_.mpr (kt.mp x)))) rfl)))|some l=>obtain⟨V,r⟩:=l;have y:=CI x;have f:decide (((o.map A.l).length)<=(p:Int)+1)=false:=e' (by exact J (bU _) (Int.not_le_of_gt (cY.mpr (bo.mp x).1)));have t:=zK w 26 (by decide) s i v u c G L;clear Q x;induction a:(i.a==[108,117,105])with|false=>exact J (Pr a) (g (aK ((as f) ((N z) ((aZ (aJ (λO=>!O) a)) rfl)))))|true=>induction U:(r.i==[99,111,100,101])with|false=>exact J (Pq U) (g (aK ((as f) ((N z) ((as (aJ (λO=>!O) a)) ((N y) ((aZ (aJ (λO=>!O) U)) rfl)))))))|true=>
refine av (RV U) λj P=>?_;subst P;rcases wv a with⟨d,m,rfl⟩|⟨l,rfl⟩;. have t:I w 26 22 [A.l (s,.a (.i d m)),.c c] u=some (.g [.b d.a,.b (m.a*4096%dg)],u):=t;induction k:decide ((d.a:Int)<=0)with|true=>exact J (Po k) (g (aK ((as f) ((N z) ((N y) ((N z) ((H t) ((N y) ((aZ k) rfl)))))))))|false=>induction W:(j.a==[97,100,100,105])with|false=>exact J (Pp W) (g (aK ((as f) ((N z) ((N y) ((N z) ((H t) ((N y) ((as k) ((aZ (aJ (λO=>!O) W)) rfl))))))))))|true=>
 refine(yE W).elim (λD=>?_) λD=>?_
 . obtain⟨Z,Y,q,rfl⟩:=D;have T:=λu=>zG w 26 (by decide) q u;have C:=λr u=>pw w 26 (by decide) r u;have R:fA (.i d m) (some (.a (.d Z Y q))) v=((((Z.a:Int)==d.a)&&((Y.a:Int)==d.a))&&((cf v d.a).getD (-1)==(m.a*4096%dg+q.a).fmod 4294967296)):=by refine E7.trans (J (pj _) ?_);refine J (RQ (ku _ (by decide))) ?_;congr 1;refine J (propext lc) (J (propext kp) ?_);refine J (propext ez) (J (propext ez) ?_);refine J (propext decide_eq_true_iff) ?_;exact⟨λe=>⟨aJ _ e.2.1,aJ _ e.2.2⟩,λe=>⟨cY.mp (Int.not_le.mp (lj k)),oK e.1,oK e.2⟩⟩
   refine J R (g (aK ((as f) ((N z) ((N y) ((N z) ((H t) ((N y) ((as k) ((H (T _)) ((H (C Z _)) ?_)))))))))));induction F:((Z.a:Int)==d.a)with|false=>exact(aZ (aJ (λO=>!O) F)) rfl|true=>refine(as (aJ (λO=>!O) F)) ((H (C Y _)) ?_);induction M:((Y.a:Int)==d.a)with|false=>exact(aZ (aJ (λO=>!O) M)) rfl|true=>exact(as (aJ (λO=>!O) M)) ((ft (N_ G)) ((H (K1 G)) rfl))
 . obtain⟨l,rfl⟩:=D;refine g (b:=false) (aK ((as f) ((N z) ((N y) ((N z) ((H t) ((N y) ((as k) ?_))))))));exact(H (zH w 26 (by decide) ([108,111,40]++l) u)) rfl
. exact g (b:=false) (aK ((as f) ((N z) ((N y) ((N z) ((H t) ((N y) rfl)))))))
noncomputable def w_(s:aY):List aY:=match s with|.f ..=>[]|.c ..=>[]|.a _ b _ _=>b|.b _ _ _ _ _ _ b _=>b|.e _ b _=>b|.g ..=>[]|.d ..=>[]|.h ..=>[]|.i ..=>[]
@[simp]theorem UB{t}{z}{y}{b}:w_ (.b q t z y j u b p)=b:=rfl
abbrev cz(b:List aY)(i:Nat):List aY:=w_ (ab b i)
def km(z:ao->af->Prop)(Q:eM×ao×af->Prop):eM×ao×af->Prop|(.b v,q)=>Q (.b v,q)|(_,y,j)=>z y j
@[simp]theorem VF{z}{Q}:km z Q (.a,y,q)=z y q:=rfl
@[simp]theorem VE{z}{Q}:km z Q (.c,y,q)=z y q:=rfl
@[simp]theorem VG{z}{Q}{v}:km z Q (.b v,q)=Q (.b v,q):=rfl
def cA(r:dc)(Q:eM×ao×af->Prop):Prop:=∃q,r=some q/\Q q
@[simp]theorem SD{Q}:cA (some q) Q↔Q q:=by
 constructor;. rintro⟨_,h,k⟩;exact J (ag h) k
 . exactλh=>⟨q,rfl,h⟩
theorem gr{t:Type}g(c:List t->ao->af->Prop)Q{y}{z}(b:∀j u,c [] j u->Q (.a,j,u))(i:∀a w j u,c (a::w) j u->cA ((y (g a) j u).bind λr=>z r.1 r.2) (km (c w) Q)):∀f j u,c f j u->cA (jN y z (f.map g) j u) Q:=by intro l;induction l with|nil=>intro j u h;exact⟨_,rfl,b j u h⟩|cons a w m=>intro j u h;refine D (i a w j u h) λq e k=>?_;refine D (qq.mp e) λr n p=>?_;refine(?_:cA ((y (g a) j u).bind λr=>(z r.1 r.2).bind λq=>match q.1 with|.b v=>some (.b v,q.2)|_=>jN y z (w.map g) q.2.1 q.2.2) Q);refine J n (?_:cA ((z r.1 r.2).bind _) Q);refine J p ?_;clear p e;obtain⟨s,o,d⟩:=q;induction s with|a=>exact m o d k|c=>exact m o d k|b v=>exact⟨_,rfl,k⟩
theorem qe(f:Nat->ao->af->Prop)Q{j}{z}(l:∀m y u,f m y u->∃b g,j y u=some (b,g)/\(b=true->cA (z y g) (km (λy u=>∃w,w<m/\f w y u) Q))/\(b=false->Q (.a,y,g))):∀n m y u,f m y u->m<n->cA (mU j z n y u) Q:=by intro s;induction s with|zero=>intro m y u h c;exact absurd c (jm _)|succ n t=>intro m y u h c;refine bP (l m y u h) λb g e x a=>?_;refine(?_:cA ((j y u).bind λr=>if r.1 then(z y r.2).bind λq=>match q.1 with|.b v=>some (.b v,q.2)|_=>mU j z n q.2.1 q.2.2 else some (.a,y,r.2)) Q);refine J e ?_;clear e;induction b with|false=>exact⟨_,rfl,a rfl⟩|true=>refine D (x rfl) λq i k=>?_;refine(?_:cA ((z y g).bind _) Q);refine J i ?_;clear i;obtain⟨Z,o,d⟩:=q;induction Z with|a=>refine D k λw p k=>?_;exact t w o d k (bl p (eB c))|c=>refine D k λw p k=>?_;exact t w o d k (bl p (eB c))|b v=>exact⟨_,rfl,k⟩
theorem qJ{Q}(h:az G q w s j u=some (.a,z,y))(k:cA (aI G q w g z y) Q):cA (aI G q w (s::g) j u) Q:=by refine J cU (J h ?_);exact k
theorem Cm{z}{Q}(h:dP G y w z j u hN=some q)(k:Q q):cA (aI G y w z j u) Q:=⟨q,eF h,k⟩
theorem dj{q}{Q}(h:dP G j w u g o hN=some (.a,z,y))(k:q z y):cA (aI G j w u g o) (km q Q):=Cm h k
theorem mN{q}{Q}(h:dP G j w u g o hN=some (.c,z,y))(k:q z y):cA (aI G j w u g o) (km q Q):=Cm h k
def kx(k:ao->af->dc)(v:V)(z:af):eM×ao×af->Prop|(.a,q,y)=>bu (k q y) v z|(.b j,_,y)=>j=v/\y=z|(.c,_,_)=>False
theorem i'{v}(h:cA (az G y w s q j) (kx (aI G y w u) v z)):bu (aI G y w (s::u) q j) v z:=by refine D h λg e k=>?_;obtain⟨o,d,c⟩:=g;refine J cU (J e ?_);clear e;induction o with|a=>exact k|c=>exact k.elim|b p=>refine ae k λf m=>?_;(refine J f ?_);(refine J m ?_);exact⟨_,rfl⟩
theorem pD{b}:az G q w (.e c b p) z y=mU (λz y=>(aT G q c z).2 y) (λz y=>aI G q w b z y) w z y:=rfl
theorem ga{t}{z}{g}{b}{o f}(r:nt m y q=some (d,j))(v:dC G u g d j=some (o,c))(k:gs z o=some f):az G u w (.b m t z g e i b p) y q=jN (λx y q=>fn G u t x y q) (λy q=>aI G u w b y q) f d c:=by refine(?_:(nt m y q).bind _=_);refine J r (?_:(dC G u g d j).bind _=_);refine J v (?_:(gs z o).bind _=_);exact J k rfl
noncomputable def cS:an->Bool|.a _=>false|.d _=>true|.g=>true|.f _=>true|.e _=>false|.c _=>false
noncomputable def kI:an->Option B|.a _=>none|.d l=>some l|.g=>none|.f _=>none|.e _=>none|.c _=>none
theorem CV(r:an):(r.i=[108,97,98,101,108]\/r.i=[98,108,97,110,107]\/r.i=[108,111,99])↔cS r=true:=by refine J ((by induction r<;>rfl:((r.i==[108,97,98,101,108])||((r.i==[98,108,97,110,107])||(r.i==[108,111,99])))=cS r)).symm (J (nq _ _) ?_);refine J (nq _ _) (J (propext ez) ?_);refine J (propext ez) (J (propext ez) ?_);rfl
def eq(z:List A)(p:Nat):Nat:=((z.drop p).takeWhile λl=>cS l.2).length
theorem uP(h:z[p]?=none\/∃l,z[p]?=some l/\cS l.2=false):eq z p=0:=by
 unfold eq;refine h.elim (λh=>?_) λy=>?_;. refine J (nd (kt.mp h)) ?_;rfl
 . refine D y λl h q=>?_;obtain⟨j,e⟩:=bo.mp h;refine J (dT j) (J e ?_);refine J qr (J q ?_);rfl
theorem Eh(h:z[p]?=some l)(y:cS l.2=true):eq z p=eq z (p+1)+1:=by unfold eq;obtain⟨q,e⟩:=bo.mp h;refine J (dT q) (J e ?_);refine J qr (J y ?_);rfl
theorem A9 w n(h:12<n)z(f:z.length<w)(p:Nat)u:I w n 12 [aU z,.b p] u=some (.b ((p+eq z p:Nat):Int),u):=by
 refine ct (f:=Aa) h rfl (by decide) rfl rfl (cy (jU _) rfl) (z:=[]) (v:=.b (p+eq z p:Nat)) ?_ rfl;refine i' (J pD ?_);refine qe (λm c u=>∃q:Nat,c=[some (aU z),some (.b q)]/\u=[]/\q+eq z q=p+eq z p/\m=z.length-q) _ ?_ w (z.length-p) _ _ ⟨p,rfl,rfl,rfl,rfl⟩ (au (le (List.length z) p) f);rintro m c u⟨q,rfl,rfl,e,rfl⟩;by_cases g:q<z.length
 . have d:z[q]?=some z[q]:=cH g;have y:=qc d;have j:q<(z.length:Int):=cY.mpr g;by_cases o:cS z[q].2=true
   . refine(ax true [] ⟨?_,λO=>?_,λh=>am h.symm⟩)
     . have:=(CV z[q].2).mpr o;have this:[108,97,98,101,108]=z[q].2.i\/[98,108,97,110,107]=z[q].2.i\/[108,111,99]=z[q].2.i:=by rcases this with h|h|h<;>simp [h]
       exact on (aZ (by simp [j,y,this]) ((N y) (aZ (by simp [j,y,this]) rfl)))
     . exact dj rfl ⟨z.length-(q+1),ha g (aH (Nat.succ q)),q+1,rfl,rfl,by refine J (aN e) (J (Eh d o) ?_);lia,rfl⟩
   . refine(ax false [] ⟨?_,(λh=>am h),λO=>?_⟩);. have:¬(z[q].2.i=[108,97,98,101,108]\/z[q].2.i=[98,108,97,110,107]\/z[q].2.i=[108,111,99]):=λh=>o ((CV _).mp h);have this:¬([108,97,98,101,108]=z[q].2.i\/[98,108,97,110,107]=z[q].2.i\/[108,111,99]=z[q].2.i):=λh=>this (by rcases h with h|h|h<;>simp [<-h]);simp only [not_or]at this;exact on (aZ (by simp [j,y,this]) ((N y) (as (by simp [j,y,this]) (by simp [j,y,this]))))
     . have:eq z q=0:=uP (.inr ⟨_,d,by simpa using o⟩);simp [kx];lia
 . refine(ax false [] ⟨?_,(λh=>am h),λO=>?_⟩);. simp [(Int.not_lt_of_ge (Int.ofNat_le.mpr (Nat.le_of_not_lt g)))]
   . have:eq z q=0:=uP (.inl (kt.mpr (g' g)));simp [kx];lia
theorem FO{c:Type}q p g{j}{y}(f:∀a,y (q a) u=some (p a,u))(m:∀a,p a=true->j (q a) u=some (g a,u)):∀(w:List c)(z:List V),z.length+w.length<ak->fL j y (w.map q) z u=some (z++(w.filter p).map g,u):=by intro t;induction t with|nil=>intro z O;simp [Jd]|cons a w d=>intro z o;simp only [List.length_cons]at o;refine J dU (J AO ?_);refine J (f _) ?_;induction h:p a with|false=>simp only [Option.bind_some,Bool.false_eq_true,if_false];refine(d z (bC o)).trans (J (List.filter_cons_of_neg (by simp [h])) ?_);rfl|true=>simp only [Option.bind_some,if_true];rw [m a h];simp only [Option.bind_some];rw [if_pos (au (bw (List.length z) (List.length w+1)) o),d _ (by simp;lia),List.filter_cons_of_pos h];simp
theorem nN{m:Type}{y}{f j}{d}{u:List m}q p g(c:dC G w f t z=some (d,z))(r:gs y d=some (u.map q))(v:∀a,jP G w j [some (q a)] z=some (p a,z))(k:∀a,p a=true->(aT G w o [some (q a)]).1 z=some (g a,z))(b:u.length<ak):(aT G w (.d false o x e y f i l j n s) t).1 z=some (.d ((u.filter p).map g),z):=by refine zl.trans (J c ?_);refine(?_:(gs y d).bind _=_);refine J r (?_:(fL _ _ (u.map q) [] z).bind _=_);exact J (FO q p g (u:=z) (j:=λx z=>(aT G w o [some x]).1 z) (y:=λx z=>jP G w j [some x] z) v k u [] (by simpa using b)) rfl
noncomputable def mq:an->Bool|.a _=>false|.d _=>true|.g=>false|.f _=>false|.e _=>false|.c _=>false
def bZ(z:List A):List B:=z.filterMap λl=>kI l.2
theorem L2 z:(z.filter λl=>mq l.2).map (λl=>V.a l.2.j)=(bZ z).map .a:=by induction z with|nil=>rfl|cons l z y=>obtain⟨s,r⟩:=l;induction r<;>simp [mq,bZ,kI,an.j]at y⊢<;>exact y
theorem LS(r:an):(r.i==[108,97,98,101,108])=mq r:=by induction r<;>rfl
def jt(z:List A)(p:Nat):List B:=bZ ((z.drop p).takeWhile λl=>cS l.2)
theorem ER z l:cP 0 z (ah l)=some (ah l):=if_pos (lq l)
theorem Ek{y:Type}(l:List y)(a b:Nat):ce l (some (a:Int)) (some ((a+b:Nat):Int))=(l.drop a).take b:=by
 unfold ce;simp only [Option.elim];refine J (ub _ _) (J (ub _ _) ?_);by_cases h:a<=l.length
 . refine J (lk h) ?_;by_cases z:a+b<=l.length;. refine J (lk z) (J (Nat.add_sub_cancel_left _ _) ?_);rfl
   . refine J (na (bC (gA z))) (J (jg (by simp)) ?_);exact J (jg (by simp;lia)) rfl
 . refine J (na (a:=a) (bC (gA h))) (J (oE (aH _)) ?_);refine J (oE (bC (gA h))) ?_;simp
theorem A7 w n(h:13<n)z(u:z.length<w)(g:z.length<ak)(p:Nat)j:I w n 13 [aU z,.b p] j=some (ah (jt z p),j):=by
 refine ct (f:=zt) h rfl (by decide) rfl rfl (cy (jU _) rfl) (z:=[]) (v:=ah (jt z p)) ?_ (ER _ _);have o:=A9 w 13 (by decide) z u p [];have q:=Ek (z.map A.l) p (eq z p);have d:(z.drop p).take (eq z p)=(z.drop p).takeWhile λl=>cS l.2:=by unfold eq;conv=>{lhs;rw [<-yk (p:=λl:A=>cS l.2) (l:=z.drop p)]};rw [List.take_left'];rw [yk]
 have q:ce (z.map A.l) (some p) (some (p+eq z p:Nat))=((z.drop p).takeWhile λl=>cS l.2).map A.l:=by rw [q];refine J List.map_drop.symm (J List.map_take.symm ?_);rw [d]
 have y:=(List.takeWhile_sublist (λl:A=>cS l.2) (l:=z.drop p)).length_le;simp only [List.length_drop]at y;refine(?_:bu (aI _ _ _ yM _ _) _ _);rw [yM,cU,BO,nN (u:=(z.drop p).takeWhile λl=>cS l.2) A.l (λl=>mq l.2) (λl=>V.a l.2.j) (d:=[.d (((z.drop p).takeWhile λl=>cS l.2).map A.l)]) ?_ rfl ?_ ?_ (au y (au (le (List.length z) p) g)),L2];. exact⟨_,rfl⟩
 . simp [zt,o];exact q
 . intro a;induction h:mq a.2<;>simp [LS,h]
 . intro a _;exact nr rfl
noncomputable def eg:an->Bool|.a _=>false|.d _=>true|.g=>false|.f _=>false|.e _=>true|.c _=>true
noncomputable def dD:an->Bool|.a _=>true|.d _=>false|.g=>false|.f _=>false|.e _=>false|.c _=>false
noncomputable def bE:Bool->List A->List A|_,[]=>[]|d,l::z=>(if(!eg l.2&&d)&&dD l.2 then []else [l])++bE (fR l.2||(!eg l.2&&d)) z
theorem I5 a b:aU (a++b)=.d (a.map A.l++b.map A.l):=by unfold aU;exact J fz rfl
theorem to{n}(h:y[n]?=some (aU z))(q:z.length<ak):cN y .e (.c n) [l.l]=some (.j,y.set n (aU (z++[l]))):=by refine J (nW (z:=z.map A.l) h (by simpa using q)) (J (I5 _ _) ?_);rfl
theorem yr{z:af}{n}{v}(h:z[n]?=some v):z.getD n .i=v:=by refine J hY ?_;exact J h rfl
theorem uU{n}(h:z[n]?=some (aU l)):cP 0 z (.c n)=some (aU l):=pM (jm _) (yr h) (jU l)
theorem vB{n}(h:z[n]?=some (aU y)):ek z .e (.c n)=true:=NN (n:=0) (oc h)
theorem rJ d l z:bE d (l::z)=(if(!eg l.2&&d)&&dD l.2 then []else [l])++bE (fR l.2||(!eg l.2&&d)) z:=rfl
inductive GN(q z:List A)(j:ao)(u:af):Prop|a(d x y:_)(_:j=[some (aU q),some (.c 0),some (.h d),x])(_:u=[aU y])(_:y++bE d z=bE false q)(_:y.length+z.length<=q.length)
theorem uD r:([108,97,98,101,108]==r.i||([111,116,104,101,114]==r.i||false))=eg r:=by induction r<;>rfl
theorem CT(r:an):(!(r.i==[99,111,100,101]))=!dD r:=by induction r<;>rfl
abbrev pQ(z:List A)(d:Bool)(l:A):ao:=[some (aU z),some (.c 0),some (.h d),some l.l]
section
variable(z:List A)(d:Bool)(l:A)
theorem O2 y:az aj (I w 14) w (ab (cz tR 1) 0) (pQ z d l) y=some (.a,pQ z (!eg l.2&&d) l,y):=by induction q:eg l.2 with|true=>exact aA ((aZ ((uD l.2).trans q)) rfl)|false=>exact aA ((as ((uD l.2).trans q)) rfl)
theorem O3 y(g:y.length<ak):az aj (I w 14) w (ab (cz tR 1) 1) (pQ z d l) [aU y]=some (.a,pQ z d l,[aU (y++if d&&dD l.2 then []else [l])]):=by have q:=to (y:=[aU y]) (n:=0) (z:=y) (l:=l) rfl g;have j:=vB (z:=[aU y]) (n:=0) (y:=y) rfl;induction d with|false=>exact aA ((ft j) ((H q) rfl))|true=>induction u:dD l.2 with|false=>exact aA ((aZ ((CT l.2).trans (aJ (!.) u))) ((ft j) ((H q) rfl)))|true=>refine aA ((as ((CT l.2).trans (aJ (!.) u))) ?_);rw [show(if(true&&true)=true then([])else [l])=[]from rfl,gX];rfl
theorem O4 y:az aj (I w 14) w (ab (cz tR 1) 2) (pQ z d l) y=some (.a,pQ z (fR l.2||d) l,y):=by refine aA (H (II w 14 (by decide) l y) ?_);induction fR l.2<;>rfl
end
theorem H6 w n(h:14<n)z(o:z.length<ak)j:I w n 14 [aU z] j=some (aU (bE false z),j):=by
 refine ct (f:=Ae) h rfl (by decide) rfl rfl (cy (jU _) rfl) (z:=[aU (bE false z)]) (v:=.c 0) ?_ (uU rfl);refine aS (z:=[some (aU z),some (.c 0),some (.h false),none]) (y:=[aU []]) (aA rfl) (i' ?_);refine J (ga (d:=[some (aU z),some (.c 0),some (.h false),none]) (j:=[aU []]) (c:=[aU []]) (o:=[aU z]) (f:=z.map A.l) rfl (fb rfl) rfl) (gr A.l (GN z) _ ?_ ?_ z _ _ ⟨false,none,[],rfl,rfl,rfl,by simp⟩)
 . rintro c j⟨d,x,y,rfl,rfl,e,_⟩;have e:y=bE false z:=by simpa [show bE d []=[]from rfl]using e
   exact aK (by exact J e rfl)
 . rintro l q c j⟨d,x,y,rfl,rfl,e,u⟩;simp only [List.length_cons]at u;have g:y.length<ak:=au (ac (bw (List.length y) (List.length q+1)) u) o;refine dj ((lL (O2 z d l _)) ((lL (O3 z _ l y g)) ((lL (O4 z _ l _)) rfl))) ⟨_,_,_,rfl,rfl,(gW _ _ _).trans e,?_⟩;rw [dN];have:(if(!eg l.2&&d)&&dD l.2 then []else [l]).length<=1:=by split<;>simp
   exact ac (hy (cX this _) _) (by rw [Nat.add_assoc,kq 1];exact u)
noncomputable def bi(z:List B):List (aD×aD):=z.map λl=>(.a l,.d true)
theorem Cd:∀{d:List (aD×aD)}{k v:aD},(∀e∈d,e.1≠k)->fh d k v=d++[(k,v)]:=by intro z;induction z with|nil=>intro k v O;exact rfl|cons e d y=>intro k v h;refine J oe (J (if_neg (h e (.head _))) ?_);exact J (y λq j=>h q (.tail _ j)) rfl
theorem ug z g:(bD (bi z) (.a g)).isSome=decide (g∈z):=by unfold bD bi;induction z with|nil=>rfl|cons x z y=>
refine J dU (J iB ?_);by_cases h:x=g;. simp [h]
. have q:¬g=x:=λe=>h e.symm;simp only [aD.a.injEq,h,decide_false,List.mem_cons,q,false_or];exact y
theorem Ce{z}(h:g∉z):fh (bi z) (.a g) (.d true)=bi (z++[g]):=by
 rw [Cd];. simp [bi]
 . intro e y q;refine D (cG.mp y) λx j u=>?_;subst u;clear y;cases q;exact h j
theorem sm{n}(h:z[n]?=some (.e d)):cP 0 z (.c n)=some (.e d):=Of (jm _) (yr h)
theorem xC z:(bi z).length=z.length:=by simp [bi]
theorem Hj d:dB 0 (.e d)=true:=Hi 0 d
inductive GJ(y z:List A)(j:ao)(u:af):Prop|a(x q:_)(_:j=[some (aU y),some (.c 0),x])(_:u=[.e (bi q)])(_:q++bZ z=bZ y)(_:q.length+z.length<=y.length)
theorem kJ l z:bZ (l::z)=(match l.2 with|.d x=>[x]|_=>[])++bZ z:=by unfold bZ;refine J List.filterMap_cons ?_;induction l.2<;>rfl
theorem H2 w n(h:17<n)z(f:z.length<ak)(u:(bZ z).Nodup)j:I w n 17 [aU z] j=some (.e (bi (bZ z)),j):=by
 refine ct (f:=tL) h rfl (by decide) rfl rfl (cy (jU _) rfl) (z:=[.e (bi (bZ z))]) (v:=.c 0) ?_ (sm rfl);refine aS (z:=[some (aU z),some (.c 0),none]) (y:=[.e (bi [])]) (by simp [tL,eR,gu];rfl) (i' ?_);refine J (ga (d:=[some (aU z),some (.c 0),none]) (j:=[.e (bi [])]) (c:=[.e (bi [])]) (o:=[aU z]) (f:=z.map A.l) rfl (fb rfl) rfl) (gr A.l (GJ z) _ ?_ ?_ z _ _ ⟨none,[],rfl,rfl,rfl,by simp⟩)
 . rintro m j⟨x,y,rfl,rfl,e,_⟩;have e:y=bZ z:=by simpa [bZ]using e
   exact aK (by exact J e rfl)
 . rintro l q m j⟨x,y,rfl,rfl,e,o⟩;simp only [List.length_cons]at o
   obtain⟨s,r⟩:=l;rw [kJ]at e;induction r with|d g=>
have c:g∉y:=by intro c;rw [<-e]at u;rw [iE]at u;exact u.2.2 g c g (by simp) rfl
have p:eY [.e (bi y)] (.c 0) (.a g) (.h true)=some [.e (bi (y++[g]))]:=by refine J (lu rfl rfl (by(refine J (xC _) ?_);exact au (ac (bw (List.length y) (List.length q+1)) o) f)) ?_;exact J (Ce c) rfl
exact dj ((je p) rfl) ⟨_,_,rfl,rfl,by simpa using e,by simp;lia⟩|_=>exact dj rfl ⟨_,y,rfl,rfl,by simpa using e,bC o⟩
noncomputable def ii:an->Option B|.a i=>(match i with|.d ..=>none|.i ..=>none|.g ..=>none|.c ..=>none|.f ..=>none|.b ..=>none|.e g=>some g|.k=>none|.j=>none|.l=>none|.o _=>none|.p _=>none|.n _=>none|.m _=>none)|.d _=>none|.g=>none|.f _=>none|.e _=>none|.c _=>none
def gb(z:List A):Option A:=(z.dropWhile λl=>cS l.2).head?
def fj(z:List A):Option B:=(gb z).bind λl=>ii l.2
noncomputable def uI(j:Option B):an->List (B×B)|.a _=>[]|.d x=>(match j with|some g=>[(x,g)]|none=>[])|.g=>[]|.f _=>[]|.e _=>[]|.c _=>[]
noncomputable def a':List A->List (B×B)|[]=>[]|l::z=>uI (fj z) l.2++a' z
theorem nU l z:a' (l::z)=uI (fj z) l.2++a' z:=rfl
noncomputable def bq(L:List (B×B)):List (aD×aD):=L.map λe=>(.a e.1,.a e.2)
noncomputable def bN(L:List (B×B))(g:B):Option B:=(L.find? λe=>e.1=g).map (λO=>O.2)
theorem zT L g:bD (bq L) (.a g)=(bN L g).map .a:=by unfold bD bN bq;induction L with|nil=>rfl|cons e L z=>
simp only [List.map_cons,List.find?_cons,aD.a.injEq];by_cases h:e.1=g;. simp [h]
. simp only [h,decide_false];exact z
theorem ui L:(bq L).length=L.length:=by simp [bq]
theorem zb{L}(h:x∉L.map (λO=>O.1)):fh (bq L) (.a x) (.a g)=bq (L++[(x,g)]):=by
 rw [Cd];. simp [bq]
 . intro e z q;refine D (cG.mp z) λy j u=>?_;subst u;exact h (cG.mpr ⟨y,j,(by simpa using q)⟩)
noncomputable def fk(i:Nat)(z:List A):List (Nat×A):=(List.range' i z.length).zip z
noncomputable def zf(p:Nat×A):V:=.g [.b p.1,p.2.l]
theorem ze i l z:fk i (l::z)=(i,l)::fk (i+1) z:=by unfold fk;refine J lV (J List.range'_succ ?_);exact J List.zip_cons_cons rfl
theorem I9 z:jO (z.map A.l)=(fk 0 z).map zf:=by unfold jO fk;refine J (bU _) (J List.range_eq_range' ?_);refine J List.zip_map_right (J di ?_);rfl
theorem ri i z:(fk i z).length=z.length:=by unfold fk;simp
theorem BL z p:z[p+eq z p]?=gb (z.drop p):=by unfold eq gb;refine(aN ne).trans ?_;induction z.drop p with|nil=>rfl|cons l r y=>
by_cases h:cS l.2=true;. refine J (qu (p:=λl:A=>cS l.2) h) (J (nc (p:=λl:A=>cS l.2) h) ?_);refine J lV (J List.getElem?_cons_succ ?_);exact y
. refine J (qt (p:=λl:A=>cS l.2) h) (J (nb (p:=λl:A=>cS l.2) h) ?_);rfl
theorem uN r:d' r=(ii r).isSome:=by induction r with|a i=>induction i<;>rfl|_=>rfl
theorem rt z:((a' z).map (λO=>O.1)).Sublist (bZ z):=by induction z with|nil=>exact List.Sublist.refl _|cons l z y=>refine J (kJ _ _) (J (nU _ _) ?_);obtain⟨s,r⟩:=l;induction r with
|d x=>induction fj z with|none=>exact y.cons _|some g=>exact y.cons_cons _
|_=>exact y
inductive AG(q:List A)(j:List (Nat×A))(u:ao)(g:af):Prop|a(i x y z L:_)(_:j=fk i (q.drop i))(_:i<=q.length)(_:u=[some (aU q),some (.c 0),x,y,z])(_:g=[.e (bq L)])(_:L++a' (q.drop i)=a' q)(_:L.length<=i)
theorem IE w n(h:15<n)q(a0:q.length<w)(a1:q.length<ak)(a2:(bZ q).Nodup)c:I w n 15 [aU q] c=some (.e (bq (a' q)),c):=by
 refine ct (f:=tJ) h rfl (by decide) rfl rfl (cy (jU _) rfl) (z:=[.e (bq (a' q))]) (v:=.c 0) ?_ (sm rfl);refine aS (z:=[some (aU q),some (.c 0),none,none,none]) (y:=[.e (bq [])]) (by simp [tJ,eR,gu];rfl) (i' ?_);rw [ga (d:=[some (aU q),some (.c 0),none,none,none]) (j:=[.e (bq [])]) (c:=[.e (bq [])]) (o:=[aU q]) (f:=(fk 0 q).map zf) rfl (fb rfl) (by rw [<-I9];rfl)];refine gr zf (AG q) _ ?_ ?_ (fk 0 q) _ _ ⟨0,none,none,none,[],rfl,eT _,rfl,rfl,by simp,aH _⟩
 . rintro S c⟨i,x,y,z,L,t,v,rfl,rfl,e,_⟩;have v:i=q.length:=by have:=aJ List.length t;rw [ri,List.length_nil,jM]at this;exact gk v (qo this.symm)
   have e:L=a' q:=by rw [v,qx]at e;exact(gX L).symm.trans e
   exact aK (by rw [e];rfl)
 . rintro⟨j,l⟩K S c⟨i,x,y,z,L,t,v,rfl,rfl,e,W⟩;have u:i<q.length:=by have:=aJ List.length t;rw [ri,lV,jM]at this;exact Nat.lt_of_sub_pos (sQ (qm _) this)
   rw [dT u,ze,qn,Prod.mk.injEq]at t;clear v;obtain⟨⟨rfl,M⟩,rfl⟩:=t;have P:q[j]?=some l:=by rw [M];exact cH u
   rw [dT u,<-M]at e;rw [nU]at e;have b:=λc=>A9 w 15 (by decide) q a0 j c;clear P;obtain⟨s,r⟩:=l;induction r with
|d g=>
 have T:gb (q.drop j)=gb (q.drop (j+1)):=by rw [dT u];refine J (aN M) ?_;unfold gb;exact J (nc rfl) rfl
 have o:=BL q j;replace o:=o.trans T;revert o b;generalize j+eq q j=k;intro b o;have a:(((a' q).map (λO=>O.1))).Nodup:=a2.sublist (rt q);have B:∀E,fj (q.drop (j+1))=none->AG q (fk (j+1) (q.drop (j+1))) [some (aU q),some (.c 0),some (.b j),some (A.l (s,.d g)),E] [.e (bq L)]:=λE m=>⟨j+1,_,_,_,L,rfl,u,rfl,rfl,by rw [m]at e;exact e,bX W⟩;induction Z:gb (q.drop (j+1))with|none=>replace o:=o.trans Z;have R:=kt.mp o;have X:¬(k<(q.length:Int)):=iH (g_.mpr R);exact dj ((H (b _)) (as (by simp [X]) rfl)) (B _ (by unfold fj;rw [Z];rfl))|some V=>
 replace o:=o.trans Z;have f:(k<(q.length:Int)):=by have:=(bo.mp o).1;exact cY.mpr this
 have D:=qc o;have Y:=λc=>tZ w 15 (by decide) V c;have m:fj (q.drop (j+1))=ii V.2:=by unfold fj;rw [Z];rfl
 clear Z o;obtain⟨s',Q⟩:=V;induction p:ii Q with|none=>
 have F:d' Q=false:=by refine(uN _).trans ?_;rw [p];rfl
 rw [F]at Y;exact dj ((H (b _)) (aZ (by simp [f]) ((N D) ((H (Y _)) rfl)))) (B _ (by rw [m];exact p))|some U=>
 have F:d' Q=true:=by refine(uN _).trans ?_;rw [p];rfl
 obtain rfl:Q=.a (.e U):=by clear F m Y D;induction Q with
|a i=>induction i<;>first|exact C p|(exact J (ag p) rfl)
|_=>exact C p
 have G:g∉L.map (λO=>O.1):=by
  intro hm;have e1:L++(g,U)::a' (q.drop (j+1))=a' q:=by rw [m]at e;exact e
  rw [<-e1,fz,iE]at a;exact a.2.2 g hm g (by simp) rfl
 have hs:eY [.e (bq L)] (.c 0) (.a g) (.a U)=some [.e (bq (L++[(g,U)]))]:=by rw [lu rfl rfl (by rw [ui];exact bl (au W u) (bC a1)),zb G];rfl
 rw [F]at Y;exact dj ((H (b _)) (aZ (by simp [f]) ((N D) ((H (Y _)) ((N D) ((je hs) rfl)))))) ⟨j+1,_,_,_,L++[(g,U)],rfl,u,rfl,rfl,by rw [m]at e;rw [gW];exact e,by simp;exact W⟩
|_=>exact dj rfl ⟨j+1,_,_,_,L,rfl,u,rfl,rfl,e,bX W⟩
noncomputable def gv(L:List (B×B))(z:List B):Nat:=(L.filter λe=>e.1∉z).length
theorem wu{L}{g t}(h:bN L g=some t):(g,t)∈L:=by unfold bN at h;refine D (fI.mp h) λe z y=>?_;have:=List.find?_some z;have q:=yb z;clear z;obtain⟨a,b⟩:=e;simp at this y;clear h;subst this y;exact q
theorem kR{L}{z}{g t}(h:bN L g=some t)(j:g∉z):gv L (z++[g])<gv L z:=by
 have u:=wu h;unfold gv;have y:(L.filter λe=>e.1∉z++[g])=(L.filter λe=>e.1∉z).filter λe=>e.1≠g:=by refine J List.filter_filter ?_;congr 1;funext e;exact J (Bool.decide_and _ _).symm (decide_eq_decide.mpr ⟨λh=>⟨λq=>h (cr.mpr (.inr (bF.mpr q))),λq=>h (cr.mpr (.inl q))⟩,λh q=>(cr.mp q).elim h.2 λq=>h.1 (bF.mp q)⟩)
 rw [y];refine List.length_filter_lt_length_iff_exists.mpr ⟨(g,t),?_,by simp⟩;exact J (propext List.mem_filter) ⟨u,by simpa using j⟩
noncomputable def lG(L:List (B×B)):Nat->List B->B->B|0,_,g=>g|n+1,z,g=>match bN L g with|none=>g|some t=>if g∈z then g else lG L n (z++[g]) t
def cl(L:List (B×B))(z:List B)(g:B):B:=lG L (gv L z+1) z g
theorem Lu{L}:∀n m z g,gv L z<n->gv L z<m->lG L n z g=lG L m z g:=by intro n;induction n with|zero=>exactλO O O h=>absurd h (jm _)|succ n j=>intro m z g u q;induction m using Nat.casesOn with|zero=>exact absurd q (jm _)|succ m=>refine(?_:(match bN L g with|none=>g|some t=>if g∈z then g else lG L n (z++[g]) t)=(match bN L g with|none=>g|some t=>if g∈z then g else lG L m (z++[g]) t));induction h:bN L g with|none=>rfl|some t=>
by_cases y:g∈z;. exact(if_pos y).trans (if_pos y).symm
. have:=kR h y;exact((if_neg y).trans (j m _ t (bl this (eB u)) (bl this (eB q)))).trans (if_neg y).symm
theorem lE{L}{z}(h:bN L g=none):cl L z g=g:=by refine(?_:(match bN L g with|none=>g|some t=>if g∈z then g else lG L _ (z++[g]) t)=g);exact J h rfl
theorem lF{L}{z}(h:g∈z):cl L z g=g:=by refine(?_:(match bN L g with|none=>g|some t=>if g∈z then g else lG L _ (z++[g]) t)=g);induction bN L g with|none=>rfl|some t=>exact if_pos h
theorem p'{L}{z}{g t}(h:bN L g=some t)(y:g∉z):cl L z g=cl L (z++[g]) t:=by refine(?_:(match bN L g with|none=>g|some t=>if g∈z then g else lG L _ (z++[g]) t)=_);exact J h ((if_neg y).trans (Lu _ _ _ _ (kR h y) (li _)))
inductive GF(L:List (B×B))(g:B)(m:Nat)(q:ao)(j:af):Prop|a(z y:_)(_:q=[some (.e (bq L)),some (.a y),some (.c 0)])(_:j=[.e (bi z)])(_:cl L z y=cl L [] g)(_:m=gv L z)(_:z.length+m<=L.length)
def qZ(r:dc)(v:V):Prop:=∃z,bu r v z
def GW(k:ao->af->dc)(v:V):eM×ao×af->Prop|(.a,y,z)=>qZ (k y z) v|(.b q,_,z)=>q=v|(.c,_,_)=>False
theorem OV{w}{z}{v}(h:cA (az G y w s q j) (GW (aI G y w z) v)):qZ (aI G y w (s::z) q j) v:=by refine D h λu e k=>?_;obtain⟨g,o,d⟩:=u;refine J cU (J e ?_);clear e;induction g with|a=>exact k|c=>exact k.elim|b c=>obtain rfl:c=v:=k;exact(ax _ _ rfl)
theorem OU{w}{j}{v}(h:az G u w s g o=some (.a,z,y))(k:qZ (aI G u w j z y) v):qZ (aI G u w (s::j) g o) v:=by refine av k λq k=>?_;exact⟨q,aS h k⟩
theorem Ip{w n k}{z}(h:k<n)(y:hG[k]?=some (some f))(q:k≠0/\k≠51)(j:f.e=0)(u:z.length=f.a)(g:c_ 0 z=true)(e:qZ (aI aj (I w k) w f.c (cu f z) []) (.f a)):I w n k z o=some (.f a,o):=by refine av e λd e=>?_;exact ct h y q j u g e rfl
theorem ID w n(h:16<n)L(r:L.length<w)(v:L.length<ak)g d:I w n 16 [.e (bq L),.a g] d=some (.a (cl L [] g),d):=by
 refine Ip (f:=tE) h rfl (by decide) rfl rfl rfl (OU (z:=[some (.e (bq L)),some (.a g),some (.c 0)]) (y:=[.e (bi [])]) (by simp [tE,eR,gu];rfl) ?_);refine OV (J pD ?_);have f:gv L []<=L.length:=yc _ _;refine qe (GF L g) _ ?_ w (gv L []) _ _ ⟨[],g,rfl,rfl,rfl,rfl,by simpa using f⟩ (au f r);rintro m b d⟨z,y,rfl,rfl,e,rfl,k⟩;have q:=ug z y
 have j:=zT L y;induction o:bN L y with|none=>
rw [o]at j;refine(ax false [.e (bi z)] ⟨?_,(λh=>am h),λO=>?_⟩);. simp [j]
. refine J (aN e) (J (lE o) ?_);exact(ax _ _ rfl)|some t=>
rw [o]at j;by_cases u:y∈z
. replace q:=q.trans (em u);refine(ax false [.e (bi z)] ⟨?_,(λh=>am h),λO=>?_⟩);. simp [q,j]
  . refine J (aN e) ?_;(refine J (lF u) ?_);exact(ax _ _ rfl)
. replace q:=q.trans (e' u);have c:=kR o u;have p:eY [.e (bi z)] (.c 0) (.a y) (.h true)=some [.e (bi (z++[y]))]:=by refine J (lu rfl rfl (by(refine J (xC _) ?_);exact au (ac (bw (List.length z) (Mp.gv L z)) k) v)) ?_;exact J (Ce u) rfl
  refine(ax true [.e (bi z)] ⟨?_,λO=>?_,λh=>am h.symm⟩);. simp [q,j]
  . exact dj ((je p) ((N (v:=V.f (aD.a t)) (by simp [j])) rfl)) ⟨_,c,z++[y],t,rfl,rfl,by refine J (aN e) ?_;refine J (p' o u) ?_;rfl,rfl,by simp;lia⟩
noncomputable def dk:an->Option B|.a i=>(match i with|.d ..=>none|.i ..=>none|.g ..=>none|.c ..=>none|.f ..=>none|.b _ _ _ g=>some g|.e g=>some g|.k=>none|.j=>none|.l=>none|.o _=>none|.p _=>none|.n _=>none|.m _=>none)|.d _=>none|.g=>none|.f _=>none|.e _=>none|.c _=>none
noncomputable def p_(L:List (B×B))(i:aQ):aQ:=match i with|.d ..=>i|.i ..=>i|.g ..=>i|.c ..=>i|.f ..=>i|.b k a b g=>.b k a b (cl L [] g)|.e g=>.e (cl L [] g)|.k ..=>i|.j ..=>i|.l ..=>i|.o ..=>i|.p ..=>i|.n ..=>i|.m ..=>i
def kK(L:List (B×B)):an->an|.a i=>.a (p_ L i)|.d l=>.d l|.g=>.g|.f b=>.f b|.e d=>.e d|.c d=>.c d
open Classical in noncomputable def bS(L:List (B×B))(l:A):A:=if kK L l.2=l.2 then l else(0,kK L l.2)
theorem Mf L:gs 0 [.e (bq L)]=some (L.map λe=>.a e.1):=by refine(?_:some (nw (bq L))=_);unfold nw bq;exact J di rfl
theorem Ms{L}(z:(L.map (λO=>O.1)).Nodup){e}(h:e∈L):bN L e.1=some e.2:=by unfold bN;induction L with|nil=>cases h|cons x L y=>
 rw [dU,hX]at z;refine J iB ?_;refine dF h ?_ λh=>?_;. simp
 . have:x.1≠e.1:=λq=>z.1 (q▸cG.mpr ⟨e,h,rfl⟩);simp only [this,decide_false];exact y z.2 h
open Classical in theorem wr L(a:d' r=false)(b:jY r=false):bS L (s,r)=(s,r):=by unfold bS;rw [if_pos];induction r with
|a i=>induction i<;>first|rfl|exact am a.symm|exact am b.symm
|_=>rfl
inductive GH(q:List A)(j L z:List (B×B))(u:List B)(g:ao)(w:af):Prop|a(x y:_)(_:L=y++z)(_:g=[some (aU q),some (.e (bi u)),some (.e (bq L)),some (.c 0),some (.c 1),x,none,none])(_:w=[aU [],.e (bq y)])
inductive AH(u:List A)(L:List (B×B))(g:List B)(q:List A)(w:ao)(o:af):Prop|a(x y z j:_)(_:w=[some (aU u),some (.e (bi g)),some (.e (bq L)),some (.c 0),some (.e (bq L)),x,y,z])(_:o=[aU j,.i])(_:j++q.map (bS L)=u.map (bS L))(_:j.length+q.length<=u.length)(_:∀l∈q,l∈u)
open Classical in theorem IF w n(h:18<n)q m(a3:q.length<w)(a0:q.length<ak)(a4:(bZ q).Nodup)(a1:∀e∈a' q,e.2∈m)(p:∀l∈q,∀i,kK (a' q) l.2=.a i->i.q<1000)j:I w n 18 [aU q,.e (bi m)] j=some (aU (q.map (bS (a' q))),j):=by
 have hk:=rt q;have C:(a' q).length<=q.length:=by have h1:=hk.length_le;rw [bU]at h1;exact ac h1 (x' _ _)
 have t:=a4.sublist hk;have R:=λj=>IE w 18 (by decide) q a3 a0 a4 j;have U:=λg j=>ID w 18 (by decide) (a' q) (au C a3) (au C a0) g j;revert p a1 C t R U;generalize a' q=L;intro a1 p C t R U;refine ct (f:=tK) h rfl (by decide) rfl rfl (cy (jU q) rfl) (z:=[aU (q.map (bS L)),.i]) (v:=.c 0) ?_ (uU rfl);refine aS (z:=[some (aU q),some (.e (bi m)),some (.e (bq L)),some (.c 0),none,none,none,none]) (y:=[aU []]) (by simp [tK,R];rfl) (aS (z:=[some (aU q),some (.e (bi m)),some (.e (bq L)),some (.c 0),some (.c 1),none,none,none]) (y:=[aU [],.e (bq [])]) (by simp [eR,gu];rfl) ?_);refine i' (J (ga (d:=[some (aU q),some (.e (bi m)),some (.e (bq L)),some (.c 0),some (.c 1),none,none,none]) (j:=[aU [],.e (bq [])]) (c:=[aU [],.e (bq [])]) (o:=[.e (bq L)]) (f:=L.map λe=>.a e.1) rfl (fb rfl) (Mf L)) ?_);refine gr (λe:B×B=>V.a e.1) (λu=>GH q [] L u m) _ ?_ ?_ L _ _ ⟨none,[],rfl,rfl,rfl⟩
 . rintro K j⟨x,f,e,rfl,rfl⟩;obtain rfl:L=f:=by simpa using e
   refine i' (J (ga (d:=[some (aU q),some (.e (bi m)),some (.e (bq L)),some (.c 0),some (.e (bq L)),x,none,none]) (j:=[aU [],.i]) (c:=[aU [],.i]) (o:=[aU q]) (f:=q.map A.l) rfl (fb rfl) rfl) ?_);refine gr A.l (AH q L m) _ ?_ ?_ q _ _ ⟨x,none,none,[],rfl,rfl,by simp,by simp,λl G=>G⟩
   . rintro K j⟨x,y,z,o,rfl,rfl,e,_,_⟩;have e:o=q.map (bS L):=by simpa using e
     exact aK (by exact J e rfl)
   . rintro l u K j⟨x,y,z,o,rfl,rfl,e,G,W⟩;simp only [List.length_cons]at G;have v:=λj=>tZ w 18 (by decide) l j;have F:=λj=>zE w 18 (by decide) l j;have M:=λP=>to (y:=[aU o,.i]) (n:=0) (z:=o) (l:=P) rfl (au (ac (bw (List.length o) (List.length u+1)) G) a0);have a5:=vB (z:=[aU o,.i]) (n:=0) (y:=o) rfl;have d:∀E P,bS L l=P->AH q L m u [some (aU q),some (.e (bi m)),some (.e (bq L)),some (.c 0),some (.e (bq L)),x,some l.l,E] [aU (o++[P]),.i]:=λE P S=>⟨x,_,E,_,rfl,rfl,by refine J e.symm (J S.symm ?_);simp,by simp;lia,λl G=>W l (.tail _ G)⟩;have Z:=p l (W l (.head _));clear W e;obtain⟨s,r⟩:=l;by_cases Q:d' r=true
     . clear F;obtain⟨g,rfl⟩:∃g,r=.a (.e g):=by clear Z d v;induction r with
 |a i=>induction i<;>first|exact⟨_,rfl⟩|exact am Q
 | _ => exact am Q
       by_cases Y:cl L [] g=g;. exact dj ((H (v _)) ((H (v _)) ((H (U g _)) ((aZ (ez.mpr Y)) ((H (M _)) rfl))))) (d _ _ (by refine(?_:(if an.a (.e (cl L [] g))=an.a (.e g)then _ else _)=_);refine J (if_pos (by(refine J Y ?_;rfl))) ?_;rfl))
       . refine dj ((H (v _)) ((H (v _)) ((H (U g _)) ((as (dA.mpr Y)) ((H ((λj=>tY w 18 (by decide) _ (Z _ rfl) j) _)) ((H (M _)) rfl)))))) (d _ _ ?_);have X:¬(an.a (.e (cl L [] g))=an.a (.e g)):=λe=>Y (ag (aJ dk e));refine(?_:(if an.a (.e (cl L [] g))=an.a (.e g)then _ else _)=_);exact J (if_neg X) rfl
     . have Q:d' r=false:=by simpa using Q
       by_cases D:jY r=true
       . clear Q;obtain⟨k,a,b,g,rfl⟩:∃k a b g,r=.a (.b k a b g):=by clear Z d F v;clear Q;induction r with
   |a i=>induction i<;>first|exact(nO _ _ _ _ rfl)|exact am D
   | _ => exact am D
         by_cases Y:cl L [] g=g;. exact dj ((H (v _)) ((H (F _)) ((H (v _)) ((H (U g _)) ((aZ (ez.mpr Y)) ((H (M _)) rfl)))))) (d _ _ (by refine(?_:(if an.a (.b k a b (cl L [] g))=an.a (.b k a b g)then _ else _)=_);refine J (if_pos (by(refine J Y ?_;rfl))) ?_;rfl))
         . refine dj ((H (v _)) ((H (F _)) ((H (v _)) ((H (U g _)) ((as (dA.mpr Y)) ((H ((λj=>tY w 18 (by decide) _ (Z _ rfl) j) _)) ((H (M _)) rfl))))))) (d _ _ ?_);have X:¬(an.a (.b k a b (cl L [] g))=an.a (.b k a b g)):=λe=>Y (ag (aJ dk e));refine(?_:(if an.a (.b k a b (cl L [] g))=an.a (.b k a b g)then _ else _)=_);rw [if_neg X];rfl
       . have D:jY r=false:=by simpa using D
         exact dj ((H (v _)) ((as Q) ((H (F _)) ((as D) ((H (M _)) rfl))))) (d _ _ (wr L Q D))
 . rintro e u K j⟨x,f,c,rfl,rfl⟩;have W:e∈L:=by refine J c ?_;simp
   have ho:=ug m e.2;rw [em (a1 e W)]at ho;have hd:=zT L e.1;rw [(Ms t W)]at hd;have T:e.1∉f.map (λO=>O.1):=by intro h;rw [c,fz,iE]at t;exact t.2.2 _ h e.1 (by simp) rfl
   have a2:f.length<=L.length:=by rw [c];simp
   have hs:eY [aU [],.e (bq f)] (.c 1) (.a e.1) (.a e.2)=some [aU [],.e (bq (f++[e]))]:=by refine J (lu rfl rfl (by rw [ui];exact au a2 (au C a0))) (J (zb T) ?_);rfl
   exact dj (N (v:=V.f (aD.a (Prod.snd e))) (by simp [hd]) ((aZ ho) (N (v:=V.f (aD.a (Prod.snd e))) (by simp [hd]) ((je hs) rfl)))) ⟨_,_,by refine J c ?_;simp,rfl,rfl⟩
def ej(z:List A):List B:=bZ (z.takeWhile λl=>cS l.2)
def ge:List A->Option an|(_,.a (.b k a b l))::(_,.a (.e g))::z=>if l∈ej z then some (.a (.b k.b a b g))else none|_=>none
def hj(l:A)(z:List A):Bool:=match dk l.2 with|some g=>decide (g∈ej z)|none=>false
noncomputable def rM(l:A)(z a b:List A):List A:=match ge (l::z)with|some r=>(0,r)::b|none=>if hj l z then a else l::a
noncomputable def bG:List A->List A|[]=>[]|l::z=>rM l z (bG z) (match z with|[]=>[]|_::q=>bG q)
theorem xe l z:bG (l::z)=rM l z (bG z) (bG (z.drop 1)):=by induction z using List.casesOn<;>rfl
theorem xf:bG []=[]:=rfl
theorem vl(h:ge (l::z)=some r):bG (l::z)=(0,r)::bG (z.drop 1):=by refine J (xe _ _) ?_;rw [rM];exact J h rfl
theorem vj(h:ge (l::z)=none)(y:hj l z=true):bG (l::z)=bG z:=by refine J (xe _ _) ?_;rw [rM];exact J h (if_pos y)
theorem pU(h:ge (l::z)=none)(y:hj l z=false):bG (l::z)=l::bG z:=by refine J (xe _ _) ?_;rw [rM];exact J h (if_neg (by refine J y ?_;decide))
noncomputable def zg:Option an->V|none=>.j|some r=>A.l (0,r)
theorem mS g d:bp.z (.a g) (.e d)=some (bD d (.a g)).isSome:=rfl
theorem uL(z:af)g(l:List B):bp.z (.a g) (.d (l.map .a))=some (decide (g∈l)):=by refine(?_:eD (.a g) (l.map .a)=_);rw [C_];congr 1;refine J (propext lc) (J (propext hZ) ?_);refine J sG ?_;rfl
theorem tW(h:jY r=true):∃k a b g,r=.a (.b k a b g):=by induction r with
|a i=>induction i<;>first|exact(nO _ _ _ _ rfl)|exact am h
|_=>exact am h
theorem wI(h:d' r=true):∃g,r=.a (.e g):=by induction r with
|a i=>induction i<;>first|exact⟨_,rfl⟩|exact am h
|_=>exact am h
theorem xA(h:jY l.2=false):ge (l::z)=none:=by obtain⟨s,r⟩:=l;induction r with
|a i=>induction i<;>first|rfl|exact am h.symm
|_=>rfl
theorem EV(h:d' z.2=false):ge (l::z::y)=none:=by obtain⟨s,r⟩:=l;obtain⟨u,q⟩:=z;induction r with
|a i=>induction i with
 |b=>induction q with
  |a j=>induction j<;>first|rfl|exact am h.symm
  |_=>rfl
 |_=>rfl
|_=>rfl
theorem xB:ge [l]=none:=by obtain⟨s,r⟩:=l;induction r with|a i=>induction i<;>rfl|_=>rfl
def F8:List (aD×aD):=((aj 3).bind V.r).getD []
theorem L8 z(k:hU):a_ z (.e F8) (.a k.a)=some (.a k.b.a):=by induction k<;>rfl
theorem Oh o:cP 0 [] (zg o)=some (zg o):=by induction o;rfl;exact uV
theorem CE{z:List A}:(z.map A.l).length=z.length:=bU _
theorem zy(h:(!b)=true):b=false:=mb b▸h
theorem re(h:(!b)=false):b=true:=Bool.not_eq_false' b▸h
theorem H1 w n(h:19<n)z m(G:z.length<w)(L:z.length<ak)(a0:∀l∈z,∀g,dk l.2=some g->g∈m/\g.length<200)(p:Nat)(Q:p<z.length)(u:af):I w n 19 [aU z,.b p,.e (bi m)] u=some (zg (ge (z.drop p)),u):=by
 refine ct (f:=Ac) h rfl (by decide) rfl rfl (cy (jU z) rfl) (aK ?_) (Oh _);have q:z[p]?=some z[p]:=cH Q;refine J (dT Q) ?_;generalize z[p]=l at q⊢;have o:=qc q;refine(N o) ((H (zE w 19 (by decide) l _)) ?_);refine hT (λd=>?_) λd=>?_;. exact J (xA (zy d)) rfl
 refine hT (λj=>?_) λy=>?_;. have j:=bt j;rw [CE]at j;refine J (nd (g_.mp j)) (J xB ?_);rfl
 have y:=Int.not_le.mp (lj y);rw [CE]at y;have y:p+1<z.length:=cY.mp y;have t:z[p+1]?=some z[p+1]:=cH y;refine J (dT y) ?_;generalize z[p+1]=Z at t⊢;have v:=CI t;refine(N v) ((H (tZ w 19 (by decide) Z _)) ?_);refine hT (λe=>?_) λe=>?_;. exact J (EV (zy e)) rfl
 obtain⟨s,r⟩:=l;obtain⟨U,F⟩:=Z;refine sf (tW (re d)) λk a b x W=>?_;subst W;refine av (wI (re e)) λg D=>?_;subst D;have c:=a0 _ (cq t) g rfl;have Y:=ug m g;rw [em c.1]at Y;have C:∀u,I w 19 13 [aU z,.b (p+2)] u=some (ah (ej (z.drop (p+2))),u):=λu=>A7 w 19 (by decide) z G L (p+2) u;refine J (show ge ((s,.a (.b k a b x))::(U,.a (.e g))::z.drop (p+1+1))=if x∈ej (z.drop (p+2))then some (.a (.b k.b a b g))else none from rfl) ((N v) ?_);refine(as (aJ (λO=>!O) Y)) ((N o) ?_);refine(H (C _)) ((eJ (aJ (Option.map (λO=>!O)) (uL [] x (ej (z.drop (p+2)))))) ?_);refine hT (λi=>?_) λi=>?_;. exact J (if_neg (lj (zy i))) rfl
 refine J (if_pos (bt (re i))) ?_;have f:(aQ.b k.b a b g).q<1000:=by
  have:=c.2;have M:k.b.a.length<=4:=by clear d o q;induction k<;>decide
  have P:a.b.length<=4:=by clear d o q;induction a<;>decide
  have T:b.b.length<=4:=by clear d o q;induction b<;>decide
  simp [aQ.q];lia
 refine(N o) ((N (L8 _ k)) ?_);refine(N o) ((N v) ?_);exact(H (tY w 19 (by decide) (.b k.b a b g) f _)) rfl
theorem EU(h:ge (l::z)=some r):1<=z.length:=by induction z using List.casesOn with|nil=>exact C (xB.symm.trans h)|cons=>simp
inductive GQ(q:List A)(j:List B)(m:Nat)(u:ao)(g:af):Prop|a(p x y z:_)(_:u=[some (aU q),some (.e (bi j)),some (.c 0),some (.b (p:Nat)),x,y])(_:g=[aU z])(_:z++bG (q.drop p)=bG q)(_:z.length<=p)(_:p<=q.length)(_:m=q.length-p)
theorem DV{l:A}(h:dk l.2=none):d' l.2=false/\jY l.2=false:=by obtain⟨s,r⟩:=l;induction r with
|a i=>induction i<;>first|exact⟨rfl,rfl⟩|exact C h.symm
|_=>exact⟨rfl,rfl⟩
theorem Kr{l:A}{g}(h:dk l.2=some g):(d' l.2=true\/jY l.2=true)/\bM (l.2.k.map V.a) (-1)=some (.a g):=by obtain⟨s,r⟩:=l;induction r with
|a i=>induction i<;>first|(exact J (ag h) ⟨.inl rfl,rfl⟩)|(cases h;exact⟨.inr rfl,rfl⟩)|exact C h
|_=>exact C h
theorem Ii w n(h:20<n)q Q(L:q.length<w)(a0:q.length<ak)(a1:∀l∈q,∀g,dk l.2=some g->g∈Q/\g.length<200)c:I w n 20 [aU q,.e (bi Q)] c=some (aU (bG q),c):=by
 refine ct (f:=tM) h rfl (by decide) rfl rfl (cy (jU q) rfl) (z:=[aU (bG q)]) (v:=.c 0) ?_ (uU rfl);refine aS (z:=[some (aU q),some (.e (bi Q)),some (.c 0),some (.b 0),none,none]) (y:=[aU []]) (by simp [tM];rfl) (i' ?_);refine J pD (qe (GQ q Q) _ ?_ w q.length _ _ ⟨0,none,none,[],rfl,rfl,by simp,by simp,eT (List.length q),by simp⟩ L);rintro m V c⟨p,x,y,u,rfl,rfl,e,v,P,rfl⟩;by_cases z:p<q.length;. have f:p<(q.length:Int):=cY.mpr z;have U:q[p]?=some q[p]:=cH z;rw [dT z]at e;have j:=H1 w 20 (by decide) q Q L a0 a1 p z;rw [dT z]at j;generalize K:q[p]=l at U e j;have s:=qc U;refine(ax true [aU u] ⟨on (by simp [f]),λO=>?_,λh=>am h.symm⟩);have F:=λl c=>zE w 20 (by decide) l c;have G:=λl c=>tZ w 20 (by decide) l c;have Z:=λc=>A7 w 20 (by decide) q L a0 (p+1) c;have Z:∀c,I w 20 13 [aU q,.b (p+1)] c=some (ah (ej (q.drop (p+1))),c):=Z;have t:=λT=>to (y:=[aU u]) (n:=0) (z:=u) (l:=T) rfl (au v (au P a0));have R:=vB (z:=[aU u]) (n:=0) (y:=u) rfl;induction i:ge (l::q.drop (p+1))with|some r=>rw [i]at j;rw [vl i,List.drop_drop]at e;have W:=EU i;rw [jM]at W;exact dj ((N s) ((H (j _)) ((H (t _)) rfl))) ⟨q.length-(p+2),ha z (bC (aH (Nat.succ (Nat.succ p)))),p+2,_,_,_,rfl,rfl,by refine J (aN e) ?_;simp,by simp;exact bX v,by lia,rfl⟩|none=>rw [i]at j;induction D:dk l.2 with|none=>refine ae (DV D) λo Y=>?_;rw [pU i (by unfold hj;exact J D rfl)]at e;exact dj ((N s) ((H (j _)) ((H (G _ _)) ((as o) ((H (F _ _)) ((as Y) ((H (t _)) rfl))))))) ⟨q.length-(p+1),ha z (aH (Nat.succ p)),p+1,_,_,_,rfl,rfl,by refine J (aN e) ?_;simp,by simp;exact v,z,rfl⟩|some g=>
refine ae (Kr D) λo Y=>?_;have d:=uL [aU u] g (ej (q.drop (p+1)));by_cases C:g∈ej (q.drop (p+1))
. rw [em C]at d;rw [vj i (by unfold hj;exact J D (em C))]at e;rcases o with o|o;. exact dj ((N s) ((H (j _)) ((H (G _ _)) ((aZ o) ((N Y) ((H (Z _)) ((eJ d) rfl))))))) ⟨q.length-(p+1),ha z (aH (Nat.succ p)),p+1,_,_,_,rfl,rfl,e,bX v,z,rfl⟩
  . have M:d' l.2=false:=by refine sf (tW o) λk a b g e=>?_;exact J e rfl
    exact dj ((N s) ((H (j _)) ((H (G _ _)) ((as M) ((H (F _ _)) ((aZ o) ((N Y) ((H (Z _)) ((eJ d) rfl))))))))) ⟨q.length-(p+1),ha z (aH (Nat.succ p)),p+1,_,_,_,rfl,rfl,e,bX v,z,rfl⟩
. rw [e' C]at d;rw [pU i (by unfold hj;exact J D (e' C))]at e;rcases o with o|o;. exact dj ((N s) ((H (j _)) ((H (G _ _)) ((aZ o) ((N Y) ((H (Z _)) ((eJ d) ((H (t _)) rfl)))))))) ⟨q.length-(p+1),ha z (aH (Nat.succ p)),p+1,_,_,_,rfl,rfl,by refine J (aN e) ?_;simp,by simp;exact v,z,rfl⟩
  . have M:d' l.2=false:=by refine sf (tW o) λk a b g e=>?_;exact J e rfl
    exact dj ((N s) ((H (j _)) ((H (G _ _)) ((as M) ((H (F _ _)) ((aZ o) ((N Y) ((H (Z _)) ((eJ d) ((H (t _)) rfl)))))))))) ⟨q.length-(p+1),ha z (aH (Nat.succ p)),p+1,_,_,_,rfl,rfl,by refine J (aN e) ?_;simp,by simp;exact v,z,rfl⟩
 . have f:¬p<(q.length:Int):=iH (g_.mpr (g' z));refine(ax false [aU u] ⟨on (by simp [f]),(λh=>am h),λO=>?_⟩);rw [nd (g' z),xf,gX]at e;exact aK (by exact J e rfl)
def gg(i:aQ)(z:db):Bool:=match fV i z with|some (r,v)=>decide (0<r)&&(cf z r==some v)|none=>false
def bL(s:Nat)(i:aQ)(z:Option (Nat×aQ)):Nat×aQ:=match hK i (z.map (λO=>O.2))with|some j=>(0,j)|none=>(s,i)
noncomputable def b'(q:db)(y:Option (Nat×aQ)):List A->List A|[]=>[]|l::z=>match l.2 with|.a i=>if fA i (z.head?.map (λO=>O.2)) q then(match z with|[]=>[]|_::r=>b' q y r)else if ho (bL l.1 i y).2||gg (bL l.1 i y).2 q then b' q y z else((bL l.1 i y).1,.a (bL l.1 i y).2)::b' (ei (bL l.1 i y).2 q) (some (bL l.1 i y)) z|.d _|.g|.f _|.e _|.c _=>l::(if eg l.2 then b' [(0,0)] none z else b' q y z)
noncomputable def gP(z:List A):List A:=b' [(0,0)] none z
section
variable{z:db}
theorem vY:b' z y []=[]:=rfl
theorem vv:b' z q ((s,.a i)::y)=if fA i (y.head?.map (λO=>O.2)) z then b' z q (y.drop 1)else if ho (bL s i q).2||gg (bL s i q).2 z then b' z q y else((bL s i q).1,.a (bL s i q).2)::b' (ei (bL s i q).2 z) (some (bL s i q)) y:=by induction y using List.casesOn<;>rfl
theorem DQ(h:∀i,l.2≠.a i):b' z q (l::y)=l::(if eg l.2 then b' [(0,0)] none y else b' z q y):=by obtain⟨s,r⟩:=l;induction r<;>first|exact absurd rfl (h _)|rfl
theorem vu(h:eg l.2=true):b' z q (l::y)=l::b' [(0,0)] none y:=by refine J (DQ (λi e=>by(replace h:=e▸h);exact am h)) (J (if_pos h) ?_);rfl
theorem vw(h:cS l.2=true)(q:eg l.2=false):b' z j (l::y)=l::b' z j y:=by refine J (DQ (λi e=>by(replace h:=e▸h);exact am h)) (J q ?_);rfl
end
theorem Kg{w}:∀a b z y,aI G j w (a++b) z y=rL (aI G j w a z y) (aI G j w b):=by intro o;induction o with|nil=>intro b z y;(refine J (mY _) ?_);exact J tz rfl|cons s a d=>intro b z y;refine J hx (J cU ?_);refine J cU ?_;induction h:az G j w s z y with|none=>rfl|some q=>clear h;obtain⟨c,u,g⟩:=q;induction c with|a=>exact d b u g|c=>rfl|b v=>rfl
theorem FQ{w}{a b}{Q}(h:aI G q w a j u=some (.a,z,y))(k:cA (aI G q w b z y) Q):cA (aI G q w (a++b) j u) Q:=by refine J (Kg _ _ _ _) (J h ?_);exact k
theorem xv(h:z[c]?=some (.e d)):ek z .t (.c c)=true:=by refine(?_:qH (aO z (.c c))=true);exact J (oc h) rfl
theorem NQ{k z}(h:y[c]?=some (.e d))(q:jD k=true):cN y .t (.c c) [.f k,.f z]=some (.f ((bD d k).getD z),y):=by refine(?_:(aO y (.c c)).r.bind _=_);exact J (oc h) (if_pos q)
theorem Mo i z:(ei i z).length<=z.length+1:=by
 unfold ei;split;. simp
 . split
   . split;. have:=LX (eO z (cD i).toNat) (cD i).toNat ‹Int›;have:=wn z (cD i).toNat;lia
     . exact bX (wn z (cD i).toNat)
   . exact bw (List.length z) 1
theorem OJ z y q:cv z y++[.e (es q)]=cv z (y++[q]):=by simp [cv]
theorem OK z y:cv z y++[.e [(.b 0,.b 0)]]=cv z (y++[[(0,0)]]):=OJ z y [(0,0)]
theorem OI z y:(cv z y).length=y.length+1:=by simp [cv]
theorem xp z y l(h:z.length<ak):cN (cv z y) .e (.c 0) [l.l]=some (.j,cv (z++[l]) y):=to (y:=cv z y) (n:=0) rfl h
theorem OL z y:ek (cv z y) .e (.c 0)=true:=vB (z:=cv z y) (n:=0) rfl
inductive GI(j:List A)(m:Nat)(o:ao)(d:af):Prop|a(p k:Nat)(u:db)(g:Option (Nat×aQ))(q:List A)(w:List db)(x y z:Option V)(_:o=[some (aU j),some (.c 0),some (.c (k+1)),some (lC g),some (.b (p:Int)),x,y,z])(_:d=cv q w)(_:w[k]?=some u)(_:q++b' u g (j.drop p)=gP j)(_:q.length<=p)(_:u.length<=p+1)(_:p<=j.length+1)(_:m=j.length-p)
theorem LU(r:an)(h:∀i,r≠.a i):¬(r.i=[99,111,100,101]):=by refine J (LR _) ?_;rintro⟨i,e⟩;exact h i e
theorem Ng s i z:bL s i z=(hK i (z.map (λO=>O.2))).elim (s,i) λj=>(0,j):=by unfold bL;induction hK i (z.map (λO=>O.2))<;>rfl
theorem Nr{w}{a b c d p z}s i f y:az aj (I w 28) w (ab (cz nY 1) 5) [a,b,c,d,p,some (A.l (s,.a i)),some (pC f),z] y=some (.a,[a,b,c,d,p,some (A.l ((f.elim (s,i) λj=>(0,j)).1,.a (f.elim (s,i) λj=>(0,j)).2)),some (pC f),z],y):=by induction f<;>exact aA rfl
theorem Q3{y}{v}(h:fV q y=some (r,v)):0<=v:=by induction q with|d=>refine cb h λO O z=>(ey z).2▸ku _ (by decide)|i=>exact lv h (ku _ (by decide))|_=>exact C h
theorem Q2{z}{v}(h:fV i z=some (r,v)):gg i z=(decide (0<r)&&(cf z r==some v)):=by unfold gg;rw [h]
theorem Q1{z}(h:fV i z=none):gg i z=false:=by unfold gg;rw [h]
theorem Ns{w k}{a b d p o}{j}s i(c:m[k+1]?=some (.e (es j))):az aj (I w 28) w (ab (cz nY 1) 7) [a,b,some (.c (k+1)),d,p,some (A.l (s,.a i)),o,some (uj (fV i j))] m=some (cond (ho i||gg i j) .c .a,[a,b,some (.c (k+1)),d,p,some (A.l (s,.a i)),o,some (uj (fV i j))],m):=by have z:=Iy w 28 (by decide) s i m;induction e:ho i with|true=>rw [e]at z;exact aA ((H z) rfl)|false=>rw [e]at z;induction t:fV i j with|none=>rw [Q1 t];exact aA ((H z) rfl)|some n=>
obtain⟨r,v⟩:=n;rw [Q2 t];have y:=NQ (k:=.b r) (z:=.b (-1)) c rfl;rw [uf]at y;by_cases f:0<r;. have q:=em (cY.mpr f);rw [(em f)];induction l:cf j r with|none=>rw [l]at y;exact aA ((H z) ((aZ q) ((ft (xv c)) ((H y) ((as (dA.mpr (Int.ne_of_lt (Q3 t)))) rfl)))))|some u=>
 rw [l]at y;refine ia (b:=(u==v)) (λg=>?_) λg=>?_;. rw [eq_of_beq g,ji];rw [eq_of_beq g]at y;exact aA ((H z) ((aZ q) ((ft (xv c)) ((H y) ((aZ (ji v)) rfl)))))
 . rw [show(some u==some v)=false from g];exact aA ((H z) ((aZ q) ((ft (xv c)) ((H y) ((as g) rfl)))))
. rw [e' f];exact aA ((H z) ((as (e' λh=>f (cY.mp h))) rfl))
theorem IH w n(h:28<n)g(a2:g.length<w)(a0:g.length<5000)(a1:∀l∈g,∀i,l.2=.a i->i.q<1000)σ:I w n 28 [aU g] σ=some (aU (gP g),σ):=by
 have L:ak=1000000:=rfl;have B:∃c,bu (aI aj (I w 28) w nY (cu pg [aU g]) []) (.c 0) c/\c[0]?=some (aU (gP g)):=by
  have e0:az aj (I w 28) w (ab nY 0) (cu pg [aU g]) []=some (.a,[some (aU g),some (.c 0),some (.c (0+1)),some (lC none),some (.b (0:Nat)),none,none,none],cv [] [[(0,0)]]):=by simp [nY,pg,eR,pv,gu];exact⟨rfl,rfl⟩
  have e1:cA (az aj (I w 28) w (ab nY 1) [some (aU g),some (.c 0),some (.c (0+1)),some (lC none),some (.b (0:Nat)),none,none,none] (cv [] [[(0,0)]])) (λq=>q.1=.a/\∃j o,q.2.2=cv j o/\j=gP g/\dR q.2.1 1=some (.c 0)):=by
   refine J pD (qe (GI g) _ ?_ w g.length _ _ ⟨0,0,[(0,0)],none,[],[[(0,0)]],none,none,none,rfl,rfl,rfl,rfl,(by decide),by simp,eT (List.length g+1),by simp⟩ a2);rintro m ρ σ⟨p,k,K,f,j,o,x,y,z,rfl,rfl,U,e,a,G,E,rfl⟩;by_cases u:p<g.length
   . have Z:g[p]?=some g[p]:=cH u;replace e:=(dT u)▸e;generalize hl:g[p]=l at Z e;have W:=qc Z;refine(ax true (cv j o) ⟨on (by simp [(Int.ofNat_lt.mpr u)]),λO=>?_,λh=>am h.symm⟩);have S:=λl'=>xp j o l' (au a (au E (au a0 (by decide))));have a3:=OL j o;by_cases C:∃i,l.2=.a i
     . clear hl;obtain⟨s,r⟩:=l;refine av C λi hi=>?_;obtain rfl:r=.a i:=hi;have a4:(an.a i).i=[99,111,100,101]:=rfl;have Y:=xq (q:=j) U;have F:=BD (cv j o).length j o;have Q:=H3 w 28 (by decide) g p s i Z K (cv j o) (k+1) Y F;rw [<-Int.add_sub_cancel p 1]at Q;replace e:=vv▸e;have PZ:(g.drop (p+1)).head?=g[p+1]?:=by refine J List.head?_drop ?_;rfl
       replace e:=PZ▸e;induction t:fA i ((g[p+1]?).map (λO=>O.2)) K with|true=>replace e:=(if_pos t)▸e;replace e:=List.drop_drop▸e;exact mN ((N W) ((H (t▸Q)) rfl)) ⟨g.length-(p+2),ha u (bC (aH (Nat.succ (Nat.succ p)))),p+2,k,K,f,j,o,_,_,_,rfl,rfl,U,e,ac a (bw p 2),bX (bX G),eA u,rfl⟩|false=>replace Q:=t▸Q;rw [if_neg (by refine J t ?_;decide)]at e;have rf:=Iv w 28 (by decide) s i f (cv j o);have M:=λ(z:Option V)=>Nr (w:=w) (a:=some (aU g)) (b:=some (.c 0)) (c:=some (.c (k+1))) (d:=some (lC f)) (p:=some (.b (p+1))) (z:=z) s i (hK i (f.map (λO=>O.2))) (cv j o);rw [<-Ng]at M;revert e M;generalize bL s i f=mv;obtain⟨P,v⟩:=mv;intro e M;have rt:=zK w 28 (by decide) P v K (cv j o) (k+1) Y F;have R:=Ns (w:=w) (a:=some (aU g)) (b:=some (.c 0)) (d:=some (lC f)) (p:=some (.b (p+1))) (o:=some (pC (hK i (f.map (λO=>O.2))))) P v Y;induction d:(ho v||gg v K)with|true=>rw [d]at R;rw [if_pos d]at e;exact mN ((N W) ((H Q) ((H rf) ((lL (M _)) ((H rt) ((lL R) rfl)))))) ⟨g.length-(p+1),ha u (aH (Nat.succ p)),p+1,k,K,f,j,o,_,_,_,rfl,rfl,U,e,bX a,bX G,bX u,rfl⟩|false=>rw [d]at R;rw [if_neg (λh=>am (d.symm.trans h))]at e;refine bg (G6 w 28 (by decide) P v j o k K U (bl (au G (au u a0)) (by decide))) λk' b ra X=>?_;exact dj ((N W) ((H Q) ((H rf) ((lL (M _)) ((H rt) ((lL R) ((H ra) ((H ((λb=>xp j b (P,.a v) (au a (au E (au a0 (by decide))))) b)) rfl)))))))) ⟨g.length-(p+1),ha u (aH (Nat.succ p)),p+1,k',ei v K,some (P,v),_,b,_,_,_,rfl,rfl,X,(gW _ _ _).trans e,(by simp;exact a),ac (Mo v K) (eA G),bX u,rfl⟩
     . have T:=LU l.2 (λi h=>C ⟨i,h⟩);by_cases d:eg l.2=true;. skip;replace e:=(vu d)▸e;have FB:=xp j (o++[[(0,0)]]) l (au a (au E (au a0 (by decide))));rw [<-OK]at FB;exact mN ((N W) ((aZ (aJ (!.) (dA.mpr T))) ((aZ ((uD l.2).trans d)) ((H FB) rfl)))) ⟨g.length-(p+1),ha u (aH (Nat.succ p)),p+1,o.length,[(0,0)],none,_,o++[[(0,0)]],_,_,_,by refine J (OI j o) ?_;rfl,rfl,by simp,by refine J (aN e) ?_;simp,by simp;exact a,by simp,bX u,rfl⟩
       . have d:eg l.2=false:=by simpa using d
         have A:cS l.2=true:=by clear d;revert d C;induction l.2 with|a i=>intro C _;exact absurd ⟨i,rfl⟩ C|_=>first|exactλO O=>rfl|exactλO h=>am h.symm|exactλO h=>absurd rfl h|exactλh O=>absurd rfl h
         replace e:=(vw A d)▸e;exact mN ((N W) ((aZ (aJ (!.) (dA.mpr T))) ((as ((uD l.2).trans d)) ((H (S _)) rfl)))) ⟨g.length-(p+1),ha u (aH (Nat.succ p)),p+1,k,K,f,_,o,_,_,_,rfl,rfl,U,by refine J (aN e) ?_;simp,by simp;exact a,bX G,bX u,rfl⟩
   . refine(ax false (cv j o) ⟨on (by simp [(Int.not_lt_of_ge (Int.ofNat_le.mpr (Nat.le_of_not_lt u)))]),(λh=>am h),λO=>?_⟩);replace e:=(nd (g' u))▸e;replace e:=vY▸e;replace e:=(gX _)▸e;exact⟨rfl,j,o,rfl,e,rfl⟩
  obtain⟨⟨fl,a5,c⟩,e2,e3,j,o,e4,e5,e6⟩:=e1;dsimp only at e3 e4 e6;subst e3 e4 e5;refine⟨cv (gP g) o,?_,rfl⟩;refine aS e0 (aS e2 ?_);exact aK ((N e6) rfl)
 refine D B λc k1 k2=>?_;exact ct (f:=pg) h rfl (by decide) rfl rfl (cy (jU _) rfl) k1 (uU k2)
noncomputable def hL:an->Bool|.a i=>(match i with|.d ..=>false|.i ..=>false|.g ..=>false|.c ..=>false|.f w _ _=>(match w with|.a=>true|.c|.d=>false)|.b ..=>false|.e _=>false|.k=>false|.j=>false|.l=>false|.o _=>false|.p _=>false|.n _=>false|.m _=>false)|.d _=>false|.g=>false|.f _=>false|.e _=>false|.c _=>false
def dE(z:List A):Nat:=(z.filter λl=>hL l.2).length
def eZ(z:List A):List A:=z.filter λl=>!dD l.2
def cO(z:List A):List A:=z.map (bS (a' z))
def cF(z:List A):List A:=gP (bG (cO (bE false z)))
theorem iO l z:dE (l::z)=(if hL l.2 then 1 else 0)+dE z:=by unfold dE;refine J List.filter_cons ?_;split<;>simp<;>lia
theorem fQ l z:eZ (l::z)=(if dD l.2 then []else [l])++eZ z:=by unfold eZ;refine List.filter_cons.trans ?_;induction dD l.2<;>simp
theorem pd z:bZ z=bZ (eZ z):=by induction z with|nil=>rfl|cons l z y=>refine J (fQ _ _) (J (kJ _ _) ?_);refine J y ?_;obtain⟨s,r⟩:=l;induction r<;>simp [dD,kJ]
structure Sj(z:an->Prop)(f:List A->List A):Prop where a:∀y,(∀l∈y,z l.2)->∀l∈f y,z l.2
theorem ka:∀d z,(bE d z).Sublist z
|_,[]=>List.Sublist.refl _|d,l::z=>by
 refine J (rJ _ _ _) ?_;split;. exact(ka _ z).cons l
 . exact(ka _ z).cons_cons l
theorem vc:∀d z,eZ (bE d z)=eZ z
|_,[]=>rfl|d,l::z=>by
 refine J (rJ _ _ _) (J (fQ _ _) ?_);split;. rename_i h;rw [fy]at h;refine J (mY _) (J (vc _ _) ?_);exact J (if_pos h.2) rfl
 . refine J lT (J (fQ _ _) ?_);exact J (vc _ _) rfl
theorem Rq(h:a.Sublist b):dE a<=dE b:=(h.filter _).length_le
theorem C8 L l:hL (bS L l).2=hL l.2:=by
 unfold bS;split;. rfl
 . obtain⟨s,r⟩:=l;induction r with|a i=>induction i<;>rfl|_=>rfl
theorem iN L l:(bS L l).2=kK L l.2:=by
 unfold bS;split;. rename_i h;exact h.symm
 . rfl
theorem C6 L r:dD (kK L r)=dD r:=by induction r with|a i=>induction i<;>rfl|_=>rfl
theorem C9 L(h:dD l.2=false):bS L l=l:=by obtain⟨s,r⟩:=l;unfold bS;rw [if_pos];induction r with|a i=>exact am h.symm|_=>rfl
theorem MI L:∀z,dE (z.map (bS L))=dE z:=by intro y;induction y with|nil=>exact rfl|cons l z q=>refine J dU (J (iO _ _) ?_);refine J (iO _ _) (J (C8 _ _) ?_);exact J (q) rfl
theorem D_ L:∀z,eZ (z.map (bS L))=eZ z:=by intro y;induction y with|nil=>exact rfl|cons l z q=>refine J dU (J (fQ _ _) ?_);refine J (fQ _ _) (J (q) ?_);refine J (iN _ _) (J (C6 _ _) ?_);induction h:dD l.2 with|true=>rfl|false=>exact J (C9 L h) rfl
theorem EW(h:ge (l::y)=some r):∃s k a b x q g z,l=(s,.a (.b k a b x))/\y=(q,.a (.e g))::z/\r=.a (.b k.b a b g)/\x∈ej z:=by obtain⟨s,u⟩:=l;induction w:jY u with|false=>exact C ((xA (l:=(s,u)) w).symm.trans h)|true=>refine sf (tW w) λk a b x d=>?_;subst d;induction y using List.casesOn with|nil=>exact C (xB.symm.trans h)|cons c z=>
 obtain⟨q,o⟩:=c;refine tS (b:=d' o) (λj=>?_) λj=>?_;. exact C ((EV (z:=(q,o)) j).symm.trans h)
 . refine av (wI j) λg f=>?_;subst f;have h:(if x∈ej z then some (an.a (.b k.b a b g))else none)=some r:=h;split at h;. exact J (ag h).symm (Kl s k a b x q g z ⟨rfl,rfl,rfl,‹_›⟩)
   . exact C h
set_option tactic.hygienic true in theorem Cg(h:hj l z=true):dD l.2=true/\hL l.2=false/\∃g,dk l.2=some g/\g∈ej z:=by
 unfold hj at h;split at h
 . rename_i g y;refine⟨?_,?_,g,y,bt h⟩;. obtain⟨s,r⟩:=l;induction r with|a i=>rfl|_=>exact C y
   . obtain⟨s,r⟩:=l;induction r with
|a i=>induction i<;>first|rfl|exact C y
|_=>exact C y
 . exact am h
theorem vk{y:List A->List A->Prop}(w:y [] [])(o:∀s k a b x t g z,x∈ej z->y z (bG z)->y ((s,.a (.b k a b x))::(t,.a (.e g))::z) ((0,.a (.b k.b a b g))::bG z))(f:∀l z g,dk l.2=some g->g∈ej z->dD l.2=true->hL l.2=false->y z (bG z)->y (l::z) (bG z))(m:∀l z,ge (l::z)=none->hj l z=false->y z (bG z)->y (l::z) (l::bG z)):∀n p,p.length<=n->y p (bG p)|_,[],_=>by exact J xf w|0,_::_,h=>absurd h (by simp)|n+1,l::z,h=>by simp only [List.length_cons]at h;induction j:ge (l::z)with|some r=>refine J (vl j) (ja (EW j) λs k a b x v=>?_);refine bB v λt g q e i=>?_;refine J e (ae i λZ Y=>?_);subst Z;refine ae Y λQ U=>?_;subst Q;simp only [List.length_cons]at h;exact o _ _ _ _ _ _ _ _ U (vk w o f m n q (bC (eB h)))|none=>
refine ia (b:=hj l z) (λu=>?_) λu=>?_;. refine J (vj j u) ?_;obtain⟨a,b,g,c,d⟩:=Cg u;exact f _ _ g c d a b (vk w o f m n z (eB h))
. exact J (pU j u) (m _ _ j u (vk w o f m n z (eB h)))
theorem rN{y:List A->List A->Prop}(j:y [] [])(u:∀s k a b x w g z,x∈ej z->y z (bG z)->y ((s,.a (.b k a b x))::(w,.a (.e g))::z) ((0,.a (.b k.b a b g))::bG z))(o:∀l z g,dk l.2=some g->g∈ej z->dD l.2=true->hL l.2=false->y z (bG z)->y (l::z) (bG z))(d:∀l z,ge (l::z)=none->hj l z=false->y z (bG z)->y (l::z) (l::bG z))q:y q (bG q):=vk j u o d q.length q (aH _)
theorem rO y:(bG y).length<=y.length/\((bG y).length=y.length->bG y=y):=by
 refine rN (y:=λa b=>b.length<=a.length/\(b.length=a.length->b=a)) ⟨aH _,λO=>rfl⟩ ?_ ?_ ?_ y;. rintro s k a b x j g z u⟨h,q⟩;simp only [List.length_cons];exact⟨au h (bw (Nat.succ (List.length z)) 1),λe=>absurd e (iJ (eA (eA h)))⟩
 . rintro l z g _ _ _ _⟨h,q⟩;simp only [List.length_cons];exact⟨bX h,λe=>absurd e (iJ (eA h))⟩
 . rintro l z _ _⟨h,q⟩;simp only [List.length_cons];exact⟨eA h,λe=>by exact J (q (gk h (eB (de (aN e))))) rfl⟩
theorem P4 y:eZ (bG y)=eZ y:=by
 refine rN (y:=λa b=>eZ b=eZ a) rfl ?_ ?_ ?_ y;. rintro s k a b x j g z u h;rw [fQ,fQ,fQ,h];rfl
 . rintro l z g _ _ q _ h;rw [fQ,if_pos q,h];rfl
 . rintro l z _ _ h;refine(fQ _ _).trans (J (fQ _ _) ?_);exact J h rfl
theorem P2 y:dE (bG y)<=dE y:=by
 refine rN (y:=λa b=>dE b<=dE a) (aH _) ?_ ?_ ?_ y;. rintro s k a b x q g z j h;refine J (iO _ _) (J (iO _ _) ?_);refine J (iO _ _) ?_;refine J (oL _) (J (oL _) ?_);exact J (oL _) h
 . rintro l z g _ _ u _ h;exact J (iO _ _) (ac h (gY (Mp.dE z) (if Mp.hL l.snd=Bool.true then 1 else 0)))
 . rintro l z _ _ h;refine J (iO _ _) (J (iO _ _) ?_);exact cX h (if Mp.hL l.snd=Bool.true then 1 else 0)
theorem BJ{o}(h:hK i o=some j):∃d m v,i=.f .a d m/\o=some (.c .c v m)/\j=.d d v .c:=by induction i with
|f w d m=>induction w with
 |a=>induction o with|none=>exact C h|some k=>induction k with
  |c z v q=>induction z with|c=>refine eI h λy e=>?_;exact J y.symm (dK d m v ⟨rfl,rfl,(ag e).symm⟩)|_=>exact C h
  |_=>exact C h
 |_=>exact C h
|_=>exact C h
theorem vr s i z:bL s i z=(s,i)\/∃d v m y,i=.f .a d m/\z=some (y,.c .c v m)/\bL s i z=(0,.d d v .c):=by unfold bL;induction h:hK i (z.map (λO=>O.2))with|none=>exact .inl rfl|some j=>refine bB (BJ h) λd m v q u=>?_;refine J q (ae u λe g=>?_);refine J g ?_;obtain⟨⟨y,k⟩,rfl,rfl⟩:=fI.mp e;exact .inr (nO d v m y ⟨rfl,rfl,rfl⟩)
theorem EY{n}{g}(h:fA y n g=true):∃z m j u q,y=.i z m/\n=some (.a (.d j u q))/\0<z.a/\j.a=z.a/\u.a=z.a/\cf g z.a=some ((m.a*4096%dg+q.a)%dg):=by induction y with
|i z m=>induction n with|none=>exact am h|some r=>induction r with
 |a y=>induction y with|d j u q=>refine ch h λw e=>?_;refine bk (bt w) λa b c=>?_;exact(pe z m j u q ⟨rfl,rfl,a,b,c,eq_of_beq e⟩)|_=>exact am h
 |_=>exact am h
|_=>exact am h
theorem v_{l:A}(h:dD l.2=false):eg l.2=true\/(cS l.2=true/\eg l.2=false):=by obtain⟨s,r⟩:=l;induction r with|a i=>exact am h.symm|d=>exact .inl rfl|e=>exact .inl rfl|c=>exact .inl rfl|g=>exact .inr ⟨rfl,rfl⟩|f=>exact .inr ⟨rfl,rfl⟩
theorem pz{l:A}(h:dD l.2=true):∃s i,l=(s,.a i):=by obtain⟨s,r⟩:=l;induction r<;>first|exact(ax _ _ rfl)|exact am h
section
variable{u:db->Option (Nat×aQ)->List A->List A->Prop}(r:∀j y,u j y [] [])(c:∀j y l z,eg l.2=true->u [(0,0)] none z (b' [(0,0)] none z)->u j y (l::z) (l::b' [(0,0)] none z))(f:∀j y l z,cS l.2=true->eg l.2=false->u j y z (b' j y z)->u j y (l::z) (l::b' j y z))(o:∀j y s d m v w g q z,0<d.a->w.a=d.a->g.a=d.a->cf j d.a=some ((m.a*4096%dg+q.a)%dg)->u j y z (b' j y z)->u j y ((s,.a (.i d m))::(v,.a (.d w g q))::z) (b' j y z))(t:∀j y s i z,fA i (z.head?.map (λO=>O.2)) j=false->(ho (bL s i y).2||gg (bL s i y).2 j)=true->u j y z (b' j y z)->u j y ((s,.a i)::z) (b' j y z))(p:∀j y s i z,fA i (z.head?.map (λO=>O.2)) j=false->(ho (bL s i y).2||gg (bL s i y).2 j)=false->u (ei (bL s i y).2 j) (some (bL s i y)) z (b' (ei (bL s i y).2 j) (some (bL s i y)) z)->u j y ((s,.a i)::z) (((bL s i y).1,.a (bL s i y).2)::b' (ei (bL s i y).2 j) (some (bL s i y)) z))
include r c f o t p
theorem vX:∀(n:Nat)(j:db)(y:Option (Nat×aQ))(Q:List A),Q.length<=n->u j y Q (b' j y Q)
|_,j,y,[],_=>by exact J vY (r j y)|0,_,_,_::_,h=>absurd h (by simp)|n+1,j,y,l::z,h=>by
 simp only [List.length_cons]at h
 have x:=λj y=>vX n j y z (eB h);induction b:dD l.2 with|false=>
refine(v_ b).elim (λq=>?_) λU=>?_;. exact J (vu q) (c _ _ _ _ q (x _ _))
. refine ae U λq Z=>?_;exact J (vw q Z) (f _ _ _ _ q Z (x _ _))|true=>refine go (pz b) λs i G=>?_;refine J G (J vv ?_);induction k:fA i (z.head?.map (λO=>O.2)) j with
|true=>refine J (if_pos rfl) ?_;clear b;refine ja (EY k) λd m w g q W=>?_;refine ae W λD F=>?_;(refine J D ?_);refine hQ F λa M P T R=>?_;clear k x;induction z using List.casesOn with|nil=>exact C a|cons V e=>obtain⟨v,K⟩:=V;simp only [List.length_cons]at h;have a:some K=some (an.a (.d w g q)):=a;clear a;obtain rfl:=ag a;exact o _ _ _ _ _ _ _ _ _ _ M P T R (vX n j y e (bC (eB h)))
|false=>refine J (if_neg (by decide)) ?_;induction Y:(ho (bL s i y).2||gg (bL s i y).2 j)with|true=>exact J (if_pos rfl) (t _ _ _ _ _ k Y (x _ _))|false=>exact J (if_neg (by decide)) (p _ _ _ _ _ k Y (x _ _))
theorem rC j y k:u j y k (b' j y k):=vX r c f o t p k.length j y k (aH _)
end
theorem vZ(e:p+1+(z+q)=r+1+(z+s)):p+q=r+s:=by rw [kq p 1,kq r 1,Nat.add_add_add_comm,Nat.add_add_add_comm 1 r]at e;exact Nat.add_left_cancel e
theorem pF j y u:(b' j y u).length<=u.length/\dE (b' j y u)<=dE u/\((b' j y u).length+dE (b' j y u)=u.length+dE u->b' j y u=u):=by
 refine rC (u:=λO O a b=>b.length<=a.length/\dE b<=dE a/\(b.length+dE b=a.length+dE a->b=a)) ?_ ?_ ?_ ?_ ?_ ?_ j y u;. intro j y;exact⟨aH _,aH _,λO=>rfl⟩
 . rintro j y l z _⟨a,b,c⟩;simp only [List.length_cons,iO];exact⟨eA a,cX b (if Mp.hL l.snd=Bool.true then 1 else 0),λe=>J (c (vZ e)) rfl⟩
 . rintro j y l z _ _⟨a,b,c⟩;simp only [List.length_cons,iO];exact⟨eA a,cX b (if Mp.hL l.snd=Bool.true then 1 else 0),λe=>J (c (vZ e)) rfl⟩
 . rintro j y s d m g t r q z _ _ _ _⟨a,b,c⟩;simp only [List.length_cons,iO];exact⟨bX (bX a),ac b (ac (gY _ _) (gY _ _)),λe=>absurd e (iJ (yd (eA (bX a)) (ac b (ac (gY _ _) (gY _ _)))))⟩
 . rintro j y s i z _ _⟨a,b,c⟩;simp only [List.length_cons,iO];exact⟨bX a,ac b (gY (Mp.dE z) (if Mp.hL (Mp.an.a i)=Bool.true then 1 else 0)),λe=>absurd e (iJ (yd (eA a) (ac b (gY _ _))))⟩
 . rintro j y s i z _ _⟨a,b,c⟩;simp only [List.length_cons,iO];refine(vr s i y).elim (λe=>?_) λw=>?_;. rw [e]at a b c⊢;dsimp only at a b c⊢;exact⟨eA a,cX b (if Mp.hL (Mp.an.a i)=Bool.true then 1 else 0),λq=>J (c (vZ q)) rfl⟩
   . refine iq w λd v m g o f=>?_;subst o;refine ae f λp e=>?_;subst p;rw [e]at a b c⊢;dsimp only [hL]at a b c⊢;simp only [if_true,Bool.false_eq_true,if_false];exact⟨eA a,ac (cX b 0) (hy (by decide) (Mp.dE z)),λq=>absurd q (iJ (Nat.add_lt_add_of_le_of_lt (eA a) (yd (by decide) b)))⟩
theorem M7 y j u:eZ (b' y j u)=eZ u:=by
 refine rC (u:=λO O a b=>eZ b=eZ a) ?_ ?_ ?_ ?_ ?_ ?_ y j u;. intro y j;rfl
 . intro y j l z _ h;refine(fQ _ _).trans (J (fQ _ _) ?_);exact J h rfl
 . intro y j l z _ _ h;refine(fQ _ _).trans (J (fQ _ _) ?_);exact J h rfl
 . intro y j s d m g w o q z _ _ _ _ h;refine J (fQ _ _) (J (fQ _ _) ?_);exact J h rfl
 . intro y j s i z _ _ h;refine J (fQ _ _) (J h ?_);rfl
 . intro y j s i z _ _ h;refine(fQ _ _).trans (J (fQ _ _) ?_);exact J h rfl
theorem Fa z:eZ (cF z)=eZ z:=by refine(M7 _ _ _).trans ((P4 _).trans ?_);exact(D_ _ _).trans (vc _ _)
theorem QD z:bZ (cF z)=bZ z:=by refine(pd _).trans (J (Fa _) ?_);exact J (pd _).symm rfl
theorem vM z:(cF z).length<=z.length/\(cF z).length+dE (cF z)<=z.length+dE z/\((cF z).length+dE (cF z)=z.length+dE z->bE false z=z/\bG (cO z)=cO z/\cF z=cO z):=by have y:=(ka false z).length_le;have u:=Rq (ka false z);have w:(cO (bE false z)).length=(bE false z).length:=(bU _);have f:dE (cO (bE false z))=dE (bE false z):=MI _ _;refine ae (rO (cO (bE false z))) λo k=>?_;have m:=P2 (cO (bE false z));refine bk (pF [(0,0)] none (bG (cO (bE false z)))) λj g p=>?_;have e:cF z=b' [(0,0)] none (bG (cO (bE false z))):=rfl;rw [<-e]at j g p;have d:=dV (ac o (de w)) (ac m (de f));refine⟨ac j (ac o (ac (de w) y)),ac (dV j g) (ac d (dV y u)),λq=>?_⟩;have t:=q▸dV j g;have r:bE false z=z:=(ka false z).eq_of_length (gk y (ye (ac (ac t d) (cX u _))));have c:=k (gk o (ac (de w) (ac y (ye (ac t (cX (ac m (ac (de f) u)) _))))));have v:=p (gk (dV j g) (ac d (ac (dV y u) (de q.symm))));rw [r]at c v;exact⟨r,c,v.trans c⟩
noncomputable def dL(L:List (B×B)):Nat->B->Option B|0,x=>some x|k+1,x=>(bN L x).bind (dL L k)
theorem pb L:∀a b x,dL L (a+b) x=(dL L a x).bind (dL L b):=by intro z;induction z with|zero=>intro b x;exact J (oL _) rfl|succ a q=>intro b x;refine J (Nat.add_right_comm a 1 b) (?_:(bN L x).bind (dL L (a+b))=((bN L x).bind (dL L a)).bind (dL L b));induction bN L x with|none=>rfl|some y=>exact q b y
theorem wH{L}(h:bN L x=some y):dL L 1 x=some y:=by refine(?_:(bN L x).bind (dL L 0)=_);exact J h rfl
def nz(L:List (B×B))(x:B):Prop:=∃k,0<k/\dL L k x=some x
theorem Ly L:∀n z g,gv L z<=n->(∀x∈z,∃k,0<k/\dL L k x=some g)->bN L (cl L z g)=none\/nz L (cl L z g):=by
 intro n;induction n with|zero=>
intro z g u j;refine fC (o:=bN L g) (λh=>?_) λt h=>?_;. exact J (lE h) (.inl h)
. by_cases y:g∈z;. exact J (lF y) (.inr (j g y))
  . exact absurd (kR h y) (nh (ac u (eT (Mp.gv L (z++[g])))))|succ n w=>
intro z g u j;refine fC (o:=bN L g) (λh=>?_) λt h=>?_;. exact J (lE h) (.inl h)
. by_cases y:g∈z;. exact J (lF y) (.inr (j g y))
  . refine J (p' h y) (w _ _ (eB (bl (kR h y) u)) λx q=>?_);rcases cr.mp q with q|q;. refine D (j x q) λk o d=>?_;exact⟨k+1,bX o,by refine(pb _ _ _ _).trans (J d ?_);exact wH h⟩
    . exact J (bF.mp q) ⟨1,by decide,wH h⟩
theorem Lz L g:bN L (cl L [] g)=none\/nz L (cl L [] g):=Ly L _ [] g (aH _) λO h=>absurd h fY
theorem Jj{L}(h:nz L x):∃p,0<p/\dL L p x=some x/\∀k,0<k->k<p->dL L k x≠some x:=by refine D h λk z y=>?_;induction k using Nat.strongRecOn with|_ k u=>
by_cases q:∃j,0<j/\j<k/\dL L j x=some x;. refine gn q λj a b c=>?_;exact u j b a c
. exact⟨k,z,y,λj a b c=>q ⟨j,a,b,c⟩⟩
theorem C2{L}(h:nz L x):cl L [] x=x:=by
 refine gn (Jj h) λp U k d=>?_;have w:∀j,j<=p->∃y,dL L j x=some y:=λj o=>by have:=pb L j (p-j) x;rw [m_ o,k]at this;induction h:dL L j x with|none=>rw [h]at this;exact C this.symm|some y=>exact⟨y,rfl⟩
 have c:∀i j y,i<j->j<p->dL L i x=some y->dL L j x≠some y:=λi j y l o G W=>by have n:=pb L j (p-j) x;rw [m_ (bC o),k,W]at n;have s:=pb L i (p-j) x;rw [G]at s;exact d _ (bl (Nat.sub_pos_of_lt o) (gY _ _)) (sQ (Nat.add_lt_add_right l _) (m_ (bC o))) (s.trans n.symm)
 have f:∀j,j<=p->∀y,dL L j x=some y->∃g:List B,cl L [] x=cl L g y/\∀z,z∈g↔∃i,i<j/\dL L i x=some z:=by intro j;induction j with|zero=>intro _ y r;exact J (ag r) ⟨[],rfl,λz=>⟨λh=>(nomatch h),λ⟨i,a,_⟩=>absurd a (nh (eT i))⟩⟩|succ j Z=>
intro o y r;refine av (w j (bC o)) λu m=>?_;refine D (Z (bC o) u m) λg e t=>?_;have Y:bN L u=some y:=by have:=pb L j 1 x;rw [m,r]at this;have this:some y=(bN L u).bind (dL L 0):=this;induction h:bN L u with|none=>rw [h]at this;exact C this.symm|some v=>rw [h]at this;exact J (ag this) rfl
have Q:u∉g:=λO=>by refine D ((t u).mp O) λi a b=>?_;exact c i j u a (o) b m
refine⟨g++[u],by exact e.trans (p' Y Q),λz=>?_⟩;refine J (propext cr) (J (propext bF) ?_);rw [t z];constructor
. clear Q Y e;rintro(⟨i,a,b⟩|rfl);. exact⟨i,bX a,b⟩
  . exact⟨j,aH (Nat.succ j),m⟩
. rintro⟨i,a,b⟩;by_cases q:i=j;. clear a t r o Z;subst q;rw [m]at b;exact J (ag b) (.inr rfl)
  . exact .inl ⟨i,by lia,b⟩
 refine D (f p (aH _) x k) λg e t=>?_;exact e.trans (lF ((t x).mpr ⟨0,U,rfl⟩))
theorem Jk{L}(h:nz L x):∃y,bN L x=some y/\nz L y:=by refine D h λk u e=>?_;obtain⟨j,rfl⟩:∃j,k=j+1:=⟨k-1,(Nat.sub_add_cancel u).symm⟩;have z:(bN L x).bind (dL L j)=some x:=e;induction q:bN L x with|none=>exact C (q▸z)|some y=>rw [q]at z;have z:dL L j y=some x:=z;refine⟨y,rfl,j+1,u,?_⟩;refine(pb _ _ _ _).trans (J z ?_);exact wH q
noncomputable def qa(L:List (B×B)):List (B×B):=L.map λe=>(e.1,cl L [] e.2)
theorem CH L z x:bN (L.map λe=>(e.1,cl z [] e.2)) x=(bN L x).map (cl z []):=by unfold bN;induction L with|nil=>rfl|cons e L y=>
refine J dU (J iB ?_);refine J iB ?_;by_cases h:e.1=x;. simp [h]
. simp only [h,decide_false];exact y
theorem Mg{L}:∀(k:Nat){x:B},nz L x->dL (qa L) k x=dL L k x:=by intro q;induction q with|zero=>intro x O;exact rfl|succ k j=>intro x h;refine D (Jk h) λy u z=>?_;refine(?_:(bN (qa L) x).bind _=(bN L x).bind _);refine J (CH _ _ _) (J u ?_);refine(?_:dL (qa L) k (cl L [] y)=dL L k y);exact J (C2 z) (j z)
theorem C3 L g:cl (qa L) [] (cl L [] g)=cl L [] g:=by
 refine(Lz L g).elim (λh=>?_) λh=>?_;. refine lE ((CH _ _ _).trans ?_);exact J h rfl
 . refine D h λk z e=>?_;exact C2 ⟨k,z,by exact(Mg k ⟨k,z,e⟩).trans e⟩
theorem MX L l:cS (bS L l).2=cS l.2:=by refine J (iN _ _) ?_;obtain⟨s,r⟩:=l;induction r with|a i=>induction i<;>rfl|_=>rfl
theorem MS L r:ii (kK L r)=(ii r).map (cl L []):=by induction r with|a i=>induction i<;>rfl|_=>rfl
theorem JV L:∀z,gb (z.map (bS L))=(gb z).map (bS L):=by intro y;induction y with|nil=>exact rfl|cons l z q=>
unfold gb;refine J dU (J yj ?_);refine J yj (J (MX _ _) ?_);split;. exact q
. rfl
theorem JU L z:fj (z.map (bS L))=(fj z).map (cl L []):=by unfold fj;rw [JV];induction gb z with|none=>rfl|some l=>refine(?_:ii (bS L l).2=(ii l.2).map _);refine J (iN _ _) (J (MS _ _) ?_);rfl
theorem MO y:∀q,a' (q.map (bS y))=(a' q).map λe=>(e.1,cl y [] e.2):=by intro u;induction u with|nil=>exact rfl|cons l q g=>
refine J dU (J (nU _ _) ?_);refine J (nU _ _) (J fz ?_);refine J (g) (J (JU _ _) ?_);congr 1;refine ia (b:=dD l.2) (λz=>?_) λz=>?_
. refine go (pz z) λs i w=>?_;subst w;have:∃j,(bS y (s,.a i)).2=.a j:=by refine J (iN _ _) ?_;clear z;induction i<;>exact⟨_,rfl⟩
  refine av this λj e=>?_;exact J e rfl
. refine J (C9 y z) ?_;clear z;obtain⟨s,r⟩:=l;induction r with|d x=>dsimp only;induction fj q<;>rfl|_=>rfl
theorem MV z:cO (cO z)=cO z:=by
 unfold cO;rw [MO,di];refine qs λl O=>?_;refine(?_:bS (qa (a' z)) (bS (a' z) l)=_);have h:kK (qa (a' z)) (bS (a' z) l).2=(bS (a' z) l).2:=by rw [iN];obtain⟨s,r⟩:=l;induction r with
 |a i=>induction i with|e g=>refine(?_:an.a (.e _)=an.a (.e _));rw [C3]|b k a y g=>refine(?_:an.a (.b k a y _)=an.a (.b k a y _));rw [C3]|_=>rfl
 |_=>rfl
 conv=>{lhs;unfold bS};rw [if_pos];. rfl
 . exact h
open Classical in noncomputable def jb(z:List A):Nat:=2*(z.length+dE z)+(if cO z=z then 0 else 1)
theorem Ni(h:cF z≠z):jb (cF z)<jb z:=by
 refine bk (vM z) λO y j=>?_;unfold jb;by_cases e:(cF z).length+dE (cF z)=z.length+dE z;. refine bk (j e) λO O q=>?_;refine J (if_pos (by(exact J q ((MV _).trans rfl)))) ?_;refine J (if_neg (λx=>h (q.trans x))) ?_;exact eA (nl 2 y)
 . have w:=nl 2 (Nat.lt_of_le_of_ne y e);split<;>split<;>first|exact jK w|exact Nat.lt_succ_of_lt (jK w)|exact w|exact Nat.lt_succ_of_lt w
noncomputable def nK(c:Nat):Bool:=(Nat.ble 65 c&&Nat.ble c 90)||(Nat.ble 97 c&&Nat.ble c 122)||(Nat.ble 48 c&&Nat.ble c 57)||c==46||c==95
noncomputable def qE(c:Nat):Bool:=(Nat.ble 65 c&&Nat.ble c 90)||(Nat.ble 97 c&&Nat.ble c 122)||c==95
noncomputable def N9:B->Bool|[]=>false|c::r=>if c=46 then(match r with|[]=>false|d::_=>qE d)else qE c
def dn(g:B):Bool:=Nat.ble g.length 29&&g.all nK&&N9 g
noncomputable def jX:List B:=[[46,76,49],[46,76,50],[46,76,51],[46,76,52],[46,76,53]]
def bA:an->Bool|.a i=>(match i with|.d ..=>true|.i _ n=>n==.f||n==.i|.g ..=>true|.c ..=>true|.f ..=>true|.b _ _ _ g=>dn g|.e g=>dn g|.k=>true|.j=>true|.l=>true|.o _=>true|.p _=>true|.n g=>jX.contains g|.m g=>jX.contains g)|.d g=>dn g|.g=>true|.f _=>true|.e _=>true|.c _=>true
structure fW(y:List B)(z:List A):Prop where
c:z.length<=300
b:bZ z=y
d:y.Nodup
a:∀l∈z,bA l.2=true
e:∀l∈z,∀g,dk l.2=some g->g∈y
def gT(z:List B)(r:an):Prop:=bA r=true/\∀g,dk r=some g->g∈z
theorem LD L:∀n z g,gv L z<=n->cl L z g=g\/∃e∈L,cl L z g=e.2:=by intro n;induction n with
|zero=>intro z g q;induction h:bN L g with|none=>exact .inl (lE h)|some t=>
 by_cases y:g∈z;. exact .inl (lF y)
 . exact absurd (kR h y) (nh (ac q (eT (Mp.gv L (z++[g])))))
|succ n j=>intro z g q;induction h:bN L g with|none=>exact .inl (lE h)|some t=>
by_cases y:g∈z;. exact .inl (lF y)
. refine J (p' h y) ((j (z++[g]) t (eB (bl (kR h y) q))).elim (λe=>?_) λe=>?_);. exact .inr ⟨(g,t),wu h,e⟩
  . exact .inr e
theorem C4:∀{y:List A}{e:B×B},e∈a' y->∃l∈y,l.2=.a (.e e.2):=by intro w;induction w with|nil=>intro e h;exact nomatch h|cons l y o=>
intro e h;replace h:=(nU _ _)▸h;rcases cr.mp h with h|h;. obtain⟨s,r⟩:=l;induction r with
|d x=>dsimp only at h;induction z:fj y with|none=>replace h:=z▸h;cases h|some g=>replace h:=z▸h;refine J (bF.mp h) ?_;unfold fj at z;induction j:gb y with|none=>replace z:=j▸z;exact C z|some q=>
 replace z:=j▸z;have z:ii q.2=some g:=z;have u:q∈y:=by exact(List.dropWhile_sublist _).subset (List.mem_of_mem_head? (l:=y.dropWhile λl=>cS l.2) (by unfold gb at j;exact j))
 refine⟨q,.tail _ u,?_⟩;clear u j;obtain⟨p,c⟩:=q;induction c with
 |a i=>induction i<;>first|((clear z;refine J (ag z) ?_);rfl)|exact C z
 |_=>exact C z
|_=>cases h
. refine D (o h) λq f m=>?_;exact⟨q,.tail _ f,m⟩
theorem uJ{y}(h:∀l∈u,gT y l.2)(z:gT y l.2):gT y (bS (a' u) l).2:=by
 refine J (iN _ _) ?_;have q:∀g,(dn g=true/\g∈y)->dn (cl (a' u) [] g)=true/\cl (a' u) [] g∈y:=λg w=>by
  refine(LD (a' u) _ [] g (aH _)).elim (λe=>?_) λo=>?_;. exact J e w
  . refine D o λx j e=>?_;refine J e ?_;refine D (C4 j) λd c f=>?_;have:=h d c;rw [f]at this;exact⟨this.1,this.2 _ rfl⟩
 obtain⟨s,r⟩:=l;induction r with
|a i=>induction i with|e g=>have:=q g ⟨z.1,z.2 g rfl⟩;exact⟨this.1,λx j=>by exact J (ag j).symm this.2⟩|b k a m g=>have:=q g ⟨z.1,z.2 g rfl⟩;exact⟨this.1,λx j=>by exact J (ag j).symm this.2⟩|_=>exact z
|_=>exact z
theorem Ee{u}w:(∀l∈w,gT u l.2)->∀l∈bG w,gT u l.2:=by
 refine rN (y:=λa b=>(∀l∈a,gT u l.2)->∀l∈b,gT u l.2) (λh=>h) ?_ ?_ ?_ w
 . intro s k a b x d g q _ j h l z;refine dF z ?_ λz=>?_;. have:=h (d,.a (.e g)) (.tail _ (.head _));exact⟨this.1,λy c=>by exact J (ag c).symm (this.2 _ rfl)⟩
   . exact j (λl z=>h l (.tail _ (.tail _ z))) l z
 . intro l q g _ _ _ _ j h o z;exact j (λl z=>h l (.tail _ z)) o z
 . intro l q _ _ j h o z;refine dF z ?_ λz=>?_;. exact h _ (.head _)
   . exact j (λl z=>h l (.tail _ z)) o z
theorem M9{c}o w f:(∀l∈f,gT c l.2)->∀l∈b' o w f,gT c l.2:=by
 refine rC (u:=λO O a b=>(∀l∈a,gT c l.2)->∀l∈b,gT c l.2) ?_ ?_ ?_ ?_ ?_ ?_ o w f;. intro _ _ h;exact h
 . intro o w l y _ j h u z;refine dF z ?_ λz=>?_;. exact h _ (.head _)
   . exact j (λl z=>h l (.tail _ z)) u z
 . intro o w l y _ _ j h u z;refine dF z ?_ λz=>?_;. exact h _ (.head _)
   . exact j (λl z=>h l (.tail _ z)) u z
 . intro o w s d m p Z Y q y _ _ _ _ j h u z;exact j (λl z=>h l (.tail _ (.tail _ z))) u z
 . intro o w s i y _ _ j h u z;exact j (λl z=>h l (.tail _ z)) u z
 . intro o w s i y _ _ j h u z;refine dF z ?_ λz=>?_
   . clear z j;refine(vr s i w).elim (λe=>?_) λt=>?_;. exact J e (h (s,.a i) (.head _))
     . refine iq t λd v m p r k=>?_;refine J r.symm (ae k λn e=>?_);refine J n.symm (J e ?_);exact⟨rfl,λg x=>C x⟩
   . exact j (λl z=>h l (.tail _ z)) u z
theorem wV{q}(h:fW q y):fW q (cF y):=by
 have z:=(vM y).1;have u:∀l∈bE false y,gT q l.2:=λl z=>by have j:=(ka false y).subset z;exact⟨h.a l j,h.e l j⟩
 have w:∀l∈cO (bE false y),gT q l.2:=λl z=>by refine D (cG.mp z) λo j d=>?_;exact J d.symm (uJ u (u o j))
 have g:=M9 [(0,0)] none _ (Ee _ w);exact⟨ac z h.c,by exact J (QD _) h.b,h.d,λl z=>(g l z).1,λl z=>(g l z).2⟩
noncomputable def iL(c:Nat):Bool:=Nat.ble 33 c&&Nat.ble c 126&&c !=34&&c !=35&&c !=44&&c !=58
def da(t:B):Bool:=!t.isEmpty&&t.all iL
theorem zP(h:iL c=true):ca c=false:=by
 have z:c<127:=by unfold iL at h;simp only [Bool.and_eq_true]at h;exact au (ex h.1.1.1.1.2) (by decide)
 have:((List.range 127).all λc=>!iL c||!ca c)=true:=by decide+kernel
 simpa [h]using(cs.mp this c (fJ.mpr z))
theorem DA(h:nK c=true):iL c=true:=by
 have z:c<127:=by
  unfold nK at h;simp only [Bool.or_eq_true,Bool.and_eq_true,beq_iff_eq]at h;rcases h with(((⟨_,h⟩|⟨_,h⟩)|⟨_,h⟩)|h)|h;. exact au (ex h) (by decide)
  . exact au (ex h) (by decide)
  . exact au (ex h) (by decide)
  . exact au (de h) (by decide)
  . exact au (de h) (by decide)
 have:((List.range 127).all λc=>!nK c||iL c)=true:=by decide+kernel
 simpa [h]using(cs.mp this c (fJ.mpr z))
theorem qf:ca 32=true:=by decide+kernel
theorem RJ:ca 9=true:=by decide+kernel
theorem iX(h:dn g=true):da g=true:=by have y:=(aE h).2;have z:=(aE (aE h).1).2;unfold da;clear h;induction g using List.casesOn with|nil=>exact am y|cons c r=>simp only [List.isEmpty_cons,Bool.not_false,Bool.true_and];rw [cs]at z⊢;exactλx q=>DA (z x q)
theorem vK{t}(h:da t=true):t≠[]:=by rintro rfl;exact am h
theorem r_{t}(h:da t=true):∀c∈t,iL c=true:=by unfold da at h;rw [fy]at h;exact cs.mp h.2
theorem jx(r:cT):da r.b=true:=by induction r<;>decide
theorem C'(r:fl):da r.b=true:=by induction r<;>decide
theorem DJ(r:eS):da r.a=true:=by induction r<;>decide
theorem mz(i:aQ):da i.a=true:=by induction i with|g o=>induction o<;>rfl|c o=>induction o<;>rfl|f o=>induction o<;>rfl|b o=>induction o<;>rfl|_=>rfl
theorem Kq:(jX.all λl=>dn l&&(da ([37,104,105,40]++l++[41])&&da ([37,108,111,40]++l++[41])))=true:=by decide+kernel
theorem uK(h:jX.contains l=true):dn l=true/\da ([37,104,105,40]++l++[41])=true/\da ([37,108,111,40]++l++[41])=true:=by have:=cs.mp Kq l (hZ.mp h);simp only [Bool.and_eq_true]at this;exact⟨this.1,this.2.1,this.2.2⟩
theorem Mr:da [122,101,114,111]=true/\da [116,49]=true/\da [53]=true/\da [114,97]=true/\da [102]=true/\da [48,40,114,97,41]=true/\da [48,40,116,49,41]=true:=by decide+kernel
theorem Gx(h:bA (.a Q)=true):Q.h.all da=true:=by
 refine vP Mr λr u Y U G W=>?_;refine ae W λO D=>?_;have z:∀a q:B,da a=true->da q=true->[a,q].all da=true:=λa q e s=>by refine jj.trans (J jj ?_);refine J e (J s ?_);rfl
 have w:∀a q f:B,da a=true->da q=true->da f=true->[a,q,f].all da=true:=λa q f e s C=>by refine jj.trans (J jj ?_);refine J jj (J e ?_);refine J s (J C ?_);rfl
 induction Q with|b k x y g=>exact w _ _ _ (jx _) (jx _) (iX h)|e g=>exact z _ _ r (iX h)|n g=>exact z _ _ u (uK h).2.1|m g=>exact w _ _ _ u u (uK h).2.2|d t q F=>exact w _ _ _ (jx _) (jx _) (C' _)|i t F=>exact z _ _ (jx _) (C' _)|g Z t q f=>exact w _ _ _ (jx _) (jx _) (jx _)|c Z v M=>exact z _ _ (jx _) (DJ _)|f Z v M=>exact z _ _ (jx _) (DJ _)|k=>exact z _ _ r O|j=>exact z _ _ r D|l=>exact z _ _ U G|o t=>exact z _ _ (jx _) Y|p t=>exact z _ _ (jx _) u
theorem ts(h:bA (.a i)=true):∀a∈i.h,da a=true:=cs.mp (Gx h)
theorem Bi(i:aQ):i.h≠[]:=by induction i<;>simp []
def mi(p:Nat->Bool)(x:B):Prop:=(∃a r,x=a::r/\p a=false)/\∃r b,x=r++[b]/\p b=false
theorem nZ{t}(h:da t=true):mi ca t:=by have z:=r_ h;induction t using List.casesOn with|nil=>exact am h|cons a r=>refine⟨(ax a r ⟨rfl,zP (z a (.head _))⟩),(a::r).dropLast,(a::r).getLast (by simp),(List.dropLast_concat_getLast _).symm,zP (z _ (List.getLast_mem _))⟩
theorem G_{p}(q:mi p a)(j:mi p b):mi p (a++m++b):=by refine ae q λu O=>?_;refine bg u λx r g w=>?_;refine J g (se j λO z y o d=>?_);exact J o ⟨(ax x (r++m++(z++[y])) ⟨by simp,w⟩),x::r++m++z,y,by simp,d⟩
theorem uh{p}{w x:B}(z:∀c∈w,p c=true):(w++x).dropWhile p=x.dropWhile p:=by induction w with|nil=>rfl|cons c w y=>refine J hx (J (nc (z c (.head _))) ?_);exact y λc q=>z c (.tail _ q)
theorem sb{p}{w v x}(z:∀c∈w,p c=true)(y:∀c∈v,p c=true)(q:mi p x):dI p (w++x++v)=x:=by
 refine se q λj u b g o=>?_;refine bg j λa r d f=>?_;unfold dI;rw [gW,uh z];have m:(x++v).dropWhile p=x++v:=by refine J d (J hx ?_);exact J (nb (by simp [f])) rfl
 refine J m ?_;rw [oJ,uh (λc t=>y c (np.mp t))];have k:x.reverse.dropWhile p=x.reverse:=by refine J g ?_;rw [oJ];refine(?_:([b]++u.reverse).dropWhile p=_);rw [lT,nb (by simp [o])];rfl
 refine J k ?_;(exact J (sw _) rfl)
theorem Fl{c}{a b:B}(h:c∉a):cc c (a++c::b)=a::cc c b:=by induction a with|nil=>refine rS.trans ?_;simp|cons x a z=>rw [kn,not_or]at h;refine J hx (rS.trans ?_);refine(if_neg (λe=>h.1 e.symm)).trans (J (z h.2) ?_);rfl
theorem rT(h:c∉a):cc c a=[a]:=by induction a with|nil=>rfl|cons x a z=>rw [kn,not_or]at h;refine J rS (J (if_neg (λe=>h.1 e.symm)) ?_);exact J (z h.2) rfl
theorem xk:∀{l:List B},l≠[]->(∀t∈l,10∉t)->cc 10 (cm [10] l)=l:=by intro z;induction z with|nil=>intro h O;exact absurd rfl h|cons x z q=>induction z using List.casesOn with|nil=>intro O h;exact rT (h x (.head _))|cons y l=>intro O h;refine(?_:cc 10 (x++[10]++cm [10] (y::l))=_);refine J (gW _ _ _) (J lT ?_);refine J (Fl (h x (.head _))) (J (q (by simp) λt j=>h t (.tail _ j)) ?_);rfl
theorem Fq{c}{l:B}(h:ca c=true):cn (c::l)=cn l:=by conv=>{lhs;unfold cn};exact(if_pos h)
theorem Fs{w l}(h:∀c∈w,ca c=true):cn (w++l)=cn l:=by induction w with|nil=>rfl|cons c w z=>refine J hx (J (Fq (h c (.head _))) ?_);exact z λc y=>h c (.tail _ y)
theorem ol:∀{t l:B},t≠[]->(∀c∈t,ca c=false)->(l=[]\/∃c r,l=c::r/\ca c=true)->cn (t++l)=t::cn l
|[],_,h,_,_=>absurd rfl h|[x],l,_,h,z=>by
 refine J lT (Fo.trans ?_);refine(if_neg (by simp [(h x (.head _))])).trans ?_;rcases z with rfl|⟨c,r,rfl,q⟩;. rfl
 . dsimp only;exact(if_pos q)|x::y::t,l,_,h,z=>by have j:=ol (t:=y::t) (l:=l) (by simp) (λc q=>h c (.tail _ q)) z;refine J hx (Fo.trans ?_);refine(if_neg (by simp [(h x (.head _))])).trans ?_;rw [hx]at j⊢;dsimp only;refine(if_neg (by simp [(h y (.tail _ (.head _)))])).trans (J j ?_);rfl
theorem pY{t}(h:da t=true):∀c∈t,ca c=false:=λc z=>zP (r_ h c z)
theorem iW{t}(h:da t=true)(z:iL c=false):c∉t:=λy=>by exact am (z.symm.trans (r_ h c y))
theorem ve{b t}(h:c∉t):dQ c b t=t:=by unfold dQ;induction t with|nil=>rfl|cons x t z=>rw [kn,not_or]at h;refine J List.flatMap_cons (J (if_neg (λe=>h.1 e.symm)) ?_);exact J (z h.2) rfl
theorem vd c b x y:dQ c b (x++y)=dQ c b x++dQ c b y:=List.flatMap_append
theorem E1{c}{a b:B}(h:c∉a):du c (a++c::b)=(a,[c],b):=by induction a with|nil=>refine uZ.trans ?_;simp|cons x a z=>rw [kn,not_or]at h;refine J hx (uZ.trans ?_);refine(if_neg (λe=>h.1 e.symm)).trans (J (z h.2) ?_);rfl
theorem xF(h:c∉a):du c a=(a,[],[]):=by induction a with|nil=>rfl|cons x a z=>rw [kn,not_or]at h;refine J uZ (J (if_neg (λe=>h.1 e.symm)) ?_);exact J (z h.2) rfl
theorem Qi(h:c∉a):fP c a=([],[],a):=by unfold fP;exact J (xF (λz=>h (np.mp z))) rfl
structure FM(m:B)(a b:Nat):Prop where c:m=List.replicate a 32++44::List.replicate b 32
theorem NB s:∃a b,FM (ci s) a b:=by
 unfold ci;split;. exact(ax 0 0 ⟨rfl⟩)
 . exact(ax 1 1 ⟨rfl⟩)
 . exact(ax 0 1 ⟨rfl⟩)
theorem mQ s:∀c∈cE s,ca c=true:=by
 intro c z;unfold cE at z;split at z;. simp at z;exact J z qf
 . exact J (bF.mp z) RJ
def dz(s:Nat)(i:aQ):B:=i.a++32::cm (ci s) i.h
theorem lw s i:(an.a i).b s=cE s++dz s i:=by refine(?_:cE s++i.a++[32]++cm (ci s) i.h=_);unfold dz;simp
theorem CN:∀{l:List B}(m:B),l≠[]->∃p b,cm m l=p++b/\b∈l|[],m,h=>absurd rfl h|[x],m,_=>(ax [] x ⟨rfl,.head _⟩)|x::y::l,m,_=>by refine bg (CN (l:=y::l) m (by simp)) λp b e z=>?_;exact(ax (x++m++p) b ⟨by refine(?_:x++m++cm m (y::l)=_);refine J e ?_;simp,.tail _ z⟩)
theorem FU:∀{l:List B}{m:B}{c:Nat},c∈cm m l->c∈m\/∃t∈l,c∈t:=by intro z;induction z with|nil=>intro m c h;exact nomatch h|cons x z j=>induction z using List.casesOn with|nil=>intro m c h;exact .inr ⟨x,.head _,h⟩|cons y l=>
intro m c h;have h:c∈x++m++cm m (y::l):=h;rw [cr,cr]at h;rcases h with(h|h)|h;. exact .inr ⟨x,.head _,h⟩
. exact .inl h
. refine(j h).elim (λq=>?_) λu=>?_;. exact .inl q
  . refine D u λt q r=>?_;exact .inr ⟨t,.tail _ q,r⟩
theorem DF(h:c∈ci s):c=32\/c=44:=by unfold ci at h;split at h<;>simp at h<;>lia
theorem lz(h:bA (.a i)=true)(y:iL c=false)(j:c≠32)(u:c≠44):c∉dz s i:=by
 intro z;unfold dz at z;rw [cr,kn]at z;refine z.elim (λq=>?_) λg=>g.elim (λq=>?_) λq=>?_;. exact iW (mz i) y q
 . exact j q
 . rcases FU q with q|⟨t,q,r⟩
   . refine(DF q).elim (λq=>?_) λq=>?_;. exact j q
     . exact u q
   . exact iW (ts h t q) y r
theorem Fj(h:bA (.a i)=true):mi ca (dz s i):=by refine bg (CN (ci s) (Bi i)) λp b e z=>?_;unfold dz;refine J e ?_;simpa using(G_ (m:=32::p) (nZ (mz i)) (nZ (ts h b z)))
theorem vL{p}(h:mi p x):dI p x=x:=by simpa using(sb (w:=[]) (v:=[]) (λO h=>absurd h fY) (λO h=>absurd h fY) h)
theorem xN n:∀c∈List.replicate n 32,ca c=true:=λc z=>by exact J (List.mem_replicate.mp z).2 qf
theorem xM n(h:c≠32):c∉List.replicate n 32:=λz=>h (List.mem_replicate.mp z).2
theorem Ft(q:FM m a b):∀{l:List B}(k:Nat),l≠[]->(∀t∈l,da t=true)->(cc 44 (List.replicate k 32++cm m l)).map (dI ca)=l
|[],_,h,_=>absurd rfl h|[x],k,_,h=>by have z:=h x (.head _);refine(?_:(cc 44 (List.replicate k 32++x)).map _=_);rw [rT (by rw [cr,not_or];exact⟨xM k (by decide),iW z (by decide)⟩)];simpa using(sb (v:=[]) (xN k) (λO h=>absurd h fY) (nZ z))|x::y::l,k,_,h=>by
 have z:=h x (.head _);have j:=Ft q (l:=y::l) b (by simp) λt u=>h t (.tail _ u);have e:List.replicate k 32++(x++m++cm m (y::l))=(List.replicate k 32++x++List.replicate a 32)++44::(List.replicate b 32++cm m (y::l)):=by rw [q.c];simp
 refine J e ?_;rw [Fl,dU];refine J j ?_;rw [sb (xN k) (xN a) (nZ z)];simp only [List.mem_append,not_or];exact⟨⟨xM k (by decide),iW z (by decide)⟩,xM a (by decide)⟩
theorem Ok a l:cP 0 z (.g [.a a,ah l])=some (.g [.a a,ah l]):=oh rfl (ER z l)
theorem IJ w n(h:2<n)s i(y:bA (.a i)=true)(o:(dz s i).length<ak)j:I w n 2 [.a (dz s i)] j=some (.g [.a i.a,ah i.h],j):=by
 refine ct (f:=z_) h rfl (by decide) rfl rfl rfl (z:=[]) (v:=.g [.a i.a,ah i.h]) ?_ (Ok _ _);have u:dQ 9 [32] (dz s i)=dz s i:=ve (lz y (by decide) (by decide) (by decide));have g:du 32 (dz s i)=(i.a,[32],cm (ci s) i.h):=E1 (iW (mz i) (by decide));refine go (NB s) λa b d=>?_;have z:=Ft d 0 (Bi i) (ts y);simp only [List.replicate_zero,List.nil_append]at z;have q:(cc 44 (cm (ci s) i.h)).length<=3:=by have:=aJ List.length z;rw [bU]at this;rw [this];clear this z g u o y;induction i<;>simp []
 refine aS (z:=[some (.a (dz s i)),some (.a i.a),some (.a [32]),some (.a (cm (ci s) i.h))]) (y:=[]) (aA (by simp [z_,mD,u,g,gL])) ?_;simp [];rw [nN (u:=cc 44 (cm (ci s) i.h)) V.a (λO=>true) (λt=>V.a (dI ca t)) (d:=[.d ((cc 44 (cm (ci s) i.h)).map .a)]) (fb rfl) rfl (λa=>by simp) (λa O=>nr rfl) (by have:ak=1000000:=rfl;exact au q (by decide))];rw [mZ.mpr (λO O=>rfl)];simp;unfold ah;conv=>{rhs;rw [<-z]};simp
theorem i_(r:cT):r.b.length<=4:=by induction r<;>decide
theorem wA(r:fl):r.b.length<=6:=by induction r<;>decide
theorem DH(r:eS):r.a.length<=5:=by induction r<;>decide
theorem v'(i:aQ):i.a.length<=4:=by induction i with|g o=>induction o<;>simp [mW.d]|c o=>induction o<;>simp [iA.b]|f o=>induction o<;>simp [oy.b]|b o=>induction o<;>simp [hU.a]|_=>simp []
theorem pK(h:dn g=true):g.length<=29:=by exact ex (aE (aE h).1).1
theorem tr(h:bA (.a q)=true):(q.h.map (λO=>O.length)).sum<=60/\q.h.length<=3:=by induction q with|b k x y g=>simp [];exact ac (dV (i_ x) (dV (i_ y) (pK h))) (by decide)|e g=>have:=pK h;simp [];exact ac (cX this 4) (by decide)|n g=>have:=pK (uK h).1;simp [];exact au (cX (hy this 4) 2) (by decide)|m g=>have:=pK (uK h).1;simp [];exact ac (cX (cX (hy this 5) 2) 2) (by decide)|d z j u=>simp [];exact ac (dV (i_ z) (dV (i_ j) (wA u))) (by decide)|i z u=>simp [];exact ac (dV (i_ z) (wA u)) (by decide)|g f z j t=>simp [];exact ac (dV (i_ z) (dV (i_ j) (i_ t))) (by decide)|c f v w=>simp [];exact ac (dV (i_ v) (DH w)) (by decide)|f f v w=>simp [];exact ac (dV (i_ v) (DH w)) (by decide)|o z=>have:=i_ z;simp [];exact ac this (by decide)|p z=>simp [];exact ac (i_ z) (by decide)|_=>simp []
theorem Cq(h:bA (.a i)=true):i.q<1000:=by have z:=v' i;refine ae (tr h) λy q=>?_;unfold aQ.q;lia
theorem DE s:(ci s).length<=3:=by unfold ci;split<;>simp
theorem F6(h:bA (.a i)=true):(dz s i).length<=100:=by have y:=v' i;refine ae (tr h) λq z=>?_;have j:=um (ci s) i.h;have u:i.h.length*(ci s).length<=3*3:=Nat.mul_le_mul z (DE s);unfold dz;simp only [List.length_append,List.length_cons];lia
theorem CZ(h:dn g=true):mi ca (g++[58]):=by refine ae (nZ (iX h)) λz O=>?_;refine bg z λa r e y=>?_;exact⟨(ax a (r++[58]) ⟨by exact J e rfl,y⟩),g,58,rfl,by decide+kernel⟩
theorem rQ{z:Type}l(x:z):ce (l++[x]) (some (-1)) none=[x]/\ce (l++[x]) none (some (-1))=l:=by
 unfold ce;simp only [Option.elim];have:h_ (l++[x]).length (-1)=l.length:=by unfold h_;refine J (if_pos (by decide)) ?_;refine J dN ?_;refine J ((Int.add_comm (-1) ((l.length:Int)+1)).trans (Int.add_neg_cancel_right _ _)) ?_;exact J (Int.min_eq_left (g_.mpr (e_ _))) (J (Int.max_eq_right (fw _)) rfl)
 refine J this ?_;constructor;. simp
 . simp
theorem nI s:∃k,k<=2/\∀r:an,r.b s=r.b k:=by
 by_cases q:s=1;. exact⟨1,by decide,λr=>by exact J q rfl⟩
 . by_cases z:s=2;. exact⟨2,by decide,λr=>by exact J z rfl⟩
   . have y:cE s=cE 0:=by unfold cE;clear z;split<;>simp_all
     have j:ci s=ci 0:=by unfold ci;clear y;split<;>simp_all
     refine⟨0,by decide,λr=>?_⟩;induction r<;>simp only [an.b,y,j]
theorem uc{c}{s:B}(h:c∉s):s.contains c=false:=by induction z:s.contains c with|false=>rfl|true=>exact absurd (hZ.mp z) h
theorem H' w n(h:3<n)s i(j:bA (.a i)=true)u:I w n 3 [.a ((an.a i).b s)] u=some (A.l (s,.a i),u):=by
 have L:ak=1000000:=rfl;have v:=F6 (s:=s) j;have z:=Fj (s:=s) j;have k:dI ca ((an.a i).b s)=dz s i:=by refine J (lw _ _) ?_;simpa using(sb (v:=[]) (mQ s) (λO h=>absurd h fY) z)
 have l:=vL z;have x:dz s i≠[]:=by obtain⟨⟨a,r,e,_⟩,_⟩:=z;refine J e ?_;simp
 have f:∃r,cn (dz s i)=i.a::r:=⟨_,ol (vK (mz i)) (pY (mz i)) (.inr (ax 32 _ ⟨rfl,qf⟩))⟩;obtain⟨r,f⟩:=f;have Z:=lz (s:=s) j (c:=35) (by decide) (by decide) (by decide);have Y:=lz (s:=s) j (c:=34) (by decide) (by decide) (by decide);have m:=lz (s:=s) j (c:=58) (by decide) (by decide) (by decide);have Q:=Qi m;have t:∃a q,i.a=a::q/\a≠46:=by clear Q m Y Z f x l k z v j;induction i with|g o=>induction o<;>exact(ax _ _ ⟨rfl,by decide⟩)|c o=>induction o<;>exact(ax _ _ ⟨rfl,by decide⟩)|f o=>induction o<;>exact(ax _ _ ⟨rfl,by decide⟩)|b o=>induction o<;>exact(ax _ _ ⟨rfl,by decide⟩)|_=>exact(ax _ _ ⟨rfl,by decide⟩)
 obtain⟨a,q,U,G⟩:=t;have W:ce i.a none (some 1)=[a]:=by exact J U (Ej a q)
 have g:∃y,ce (dz s i) (some (-1)) none=[y]/\y≠58:=by obtain⟨_,p,y,e,_⟩:=z;refine⟨y,by exact J e ((rQ p y).1),λD=>m ?_⟩;refine J e (J D ?_);simp
 obtain⟨y,C,F⟩:=g;refine ct (f:=ph) h rfl (by decide) rfl rfl rfl (z:=[]) (v:=A.l (s,.a i)) ?_ uV;simp [ph,yO,k,x,f,W,G,Z,Y,m,C,F,Q,gL,l,(λu=>IJ w 3 (by decide) s i j (Nat.lt_of_le_of_lt v (by decide)) u),(λa y M d u=>A8 w 3 (by decide) a y M d u)];rfl
theorem I4(e:∀r:an,r.b s=r.b k)r:A.l (s,r)=A.l (k,r):=by unfold A.l;dsimp only;exact J (e _) rfl
theorem Ia w n(h:3<n)s g(f:dn g=true)y:I w n 3 [.a (g++[58])] y=some (A.l (s,.d g),y):=by
 have m:=vL (CZ f);have p:=iX f;have u:∀c∈g++[58],ca c=false:=λc Z=>by
  refine(cr.mp Z).elim (λq=>?_) λq=>?_;. exact pY p c q
  . rw [bF.mp q];decide+kernel
 have t:cn (g++[58])=[g++[58]]:=by simpa [cn]using(ol (t:=g++[58]) (l:=[]) (by simp) u (.inl rfl))
 have j:∀c,iL c=false->c≠58->c∉g++[58]:=λc Y Q=>by refine J (propext cr) (J (propext not_or) ?_);refine J (propext bF) ?_;exact⟨iW p Y,Q⟩
 have r:=j 35 (by decide) (by decide);have v:=j 34 (by decide) (by decide);have k:=j 32 (by decide) (by decide);have e:=j 9 (by decide) (by decide);have i:58∈g++[58]:=by simp
 have o:=rQ g 58;have U:=λa b c d y=>A8 w 3 (by decide) a b c d y;refine ct (f:=ph) h rfl (by decide) rfl rfl rfl (z:=[]) (v:=A.l (s,.d g)) ?_ uV;generalize l:g++[58]=x at m t r v k e i o⊢;have G:x≠[]:=by refine J (aN l) ?_;simp
 simp [ph,yO,m,G,t,r,v,k,e,i,o.1,o.2,U];have z:V.k [V.a x,V.a [108,97,98,101,108],V.a g,V.d []]=A.l (s,an.d g):=by exact J (aN l) rfl
 exact⟨λO=>z,λq=>⟨λW=>absurd W q,λO=>z⟩⟩
theorem H8 w n(h:3<n)(l:A)(z:bA l.2=true)y:I w n 3 [.a (l.2.b l.1)] y=some (l.l,y):=by
 obtain⟨s,r⟩:=l;have q:∀r:an,(∀k,k<=2->I w n 3 [.a (r.b k)] y=some (A.l (k,r),y))->I w n 3 [.a (r.b s)] y=some (A.l (s,r),y):=λr o=>by refine D (nI s) λk u e=>?_;refine J (I4 e _) (J (e _) ?_);exact o k u
 induction r with
|a i=>exact H' w n h s i z y|d c=>exact Ia w n h s c z y|g=>refine J (dx h) ?_;kernel_rfl|f b=>
refine q _ λk u=>?_;refine J (dx h) ?_;rcases k with _|_|_|k;. clear z;induction b<;>kernel_rfl
. clear z;induction b<;>kernel_rfl
. clear z;induction b<;>kernel_rfl
. lia|e j=>
refine q _ λk u=>?_;refine J (dx h) ?_;rcases k with _|_|_|k;. clear z;induction j<;>kernel_rfl
. clear z;induction j<;>kernel_rfl
. clear z;induction j<;>kernel_rfl
. lia|c j=>
refine q _ λk u=>?_;refine J (dx h) ?_;rcases k with _|_|_|k;. clear z;induction j<;>kernel_rfl
. clear z;induction j<;>kernel_rfl
. clear z;induction j<;>kernel_rfl
. lia
def cB(z:List A):B:=cm [10] (z.map λl=>l.2.b l.1)
theorem QV:((List.range 3).all λk=>([an.g,.f true,.f false,.e .e,.e .f,.e .d,.e .g,.e .c,.e .h,.c .f,.c .b,.c .d,.c .g,.c .e,.c .c,.c .a]:List an).all λr=>!(r.b k).contains 10&&Nat.ble (r.b k).length 200)=true:=by decide+kernel
theorem Ct s:(cE s).length<=4/\10∉cE s:=by unfold cE;split<;>simp
theorem r'(l:A)(y:bA l.2=true):10∉l.2.b l.1/\(l.2.b l.1).length<=200:=by
 obtain⟨s,r⟩:=l;dsimp only at y⊢;have z:∀r:an,r∈([an.g,.f true,.f false,.e .e,.e .f,.e .d,.e .g,.e .c,.e .h,.c .f,.c .b,.c .d,.c .g,.c .e,.c .c,.c .a])->10∉r.b s/\(r.b s).length<=200:=λr o=>by refine D (nI s) λk c e=>?_;refine J (e _) ?_;have j:=cs.mp (cs.mp QV k (fJ.mpr (au c (by decide)))) r o;rw [fy]at j;refine⟨λq=>?_,ex j.2⟩;have:=j.1;rw [hZ.mpr q]at this;exact am this
 induction r with|a i=>rw [lw];refine ae (Ct s) λm j=>?_;refine⟨?_,by simp;exact ac (dV m (F6 (s:=s) y)) (by decide)⟩;rw [cr,not_or];exact⟨j,lz y (by decide) (by decide) (by decide)⟩|d w=>refine(?_:10∉w++[58]/\(w++[58]).length<=200);refine⟨?_,by simp;exact ac (pK y) (by decide)⟩;rw [cr,not_or];exact⟨iW (iX y) (by decide),by decide⟩|g=>exact z _ (by repeat first|exact .head _|refine .tail _ ?_)|f b=>clear y;induction b<;>exact z _ (by repeat first|exact .head _|refine .tail _ ?_)|e u=>clear y;induction u<;>exact z _ (by repeat first|exact .head _|refine .tail _ ?_)|c u=>clear y;induction u<;>exact z _ (by repeat first|exact .head _|refine .tail _ ?_)
theorem wP{z:Type}{f}:∀{l:List z},(∀x∈l,f x<=k)->(l.map f).sum<=l.length*k|[],_=>by simp|x::l,h=>by have q:=h x (.head _);have j:=wP (l:=l) λy u=>h y (.tail _ u);simp only [List.map_cons,List.sum_cons,List.length_cons];exact J (Nat.succ_mul _ _) (ac (dV q j) (de (kq _ _)))
theorem QW{z:List A}(q:∀l∈z,bA l.2=true)(y:z.length<=300):(((z.map λl=>l.2.b l.1).map λt=>t.length).sum+(z.map λl=>l.2.b l.1).length*1)<100000:=by refine J di (J (bU _) ?_);have:=wP (f:=(λt:B=>t.length)∘λl:A=>l.2.b l.1) (k:=200) (l:=z) λl j=>(r' l (q l j)).2;exact au (dV (ac this (yf 200 y)) (yf 1 y)) (by decide)
theorem Ik w n(h:29<n)z(j:∀l∈z,bA l.2=true)(y:z.length<=300)q:I w n 29 [aU z] q=some (.a (cB z),q):=by have L:ak=1000000:=rfl;refine ct (f:=BE) h rfl (by decide) rfl rfl (cy (jU _) rfl) (z:=[]) (v:=.a (cB z)) ?_ rfl;refine(?_:bu (aI _ _ _ yP _ _) _ _);rw [yP,cU,BO,J4,BM];simp only [Option.bind_some,iy.e];(rw [show ek [] .m (.a [10])=true from rfl];refine J (if_pos rfl) ?_);refine J zm ?_;rw [nN (u:=z) A.l (λO=>true) (λl=>V.a (l.2.b l.1)) (d:=[aU z]) (fb rfl) rfl (λa=>by simp) (λa O=>nr rfl) (au y (by decide))];rw [mZ.mpr (λO O=>rfl)];simp only [Option.bind_some,BN,Option.map_some];rw [show(z.map λl=>V.a (l.2.b l.1))=(z.map λl=>l.2.b l.1).map .a by rw [di];rfl];refine J (vo (l:=z.map λl=>l.2.b l.1) rfl (by simp only [List.length_cons,List.length_nil];exact bl (QW j y) (by decide))) ?_;exact⟨_,rfl⟩
def ry(t:B):B:=(t.reverse.takeWhile λc=>c !=32&&c !=44).reverse
theorem F5{p}{a b:B}{c}(z:∀x∈a,p x=true)(q:p c=false):(a++c::b).takeWhile p=a:=by induction a with|nil=>exact(mY _).trans (qt (by simp [q]))|cons x a j=>refine J hx (J (qu (z x (.head _))) ?_);exact J (j λy u=>z y (.tail _ u)) rfl
theorem D1(q:c=32\/c=44)(j:da g=true):ry (p++c::g)=g:=by
 unfold ry;refine J (show p++c::g=(p++[c])++g by simp) ?_;rw [oJ,oJ];rw [ya,lT,F5];. simp
 . intro x z;have:=r_ j x (np.mp z);have y:x≠32:=λe=>by clear z;subst e;exact absurd this (by decide)
   have u:x≠44:=λe=>by clear y;clear z;subst e;exact absurd this (by decide)
   simp [y,u]
 . rcases q with rfl|rfl<;>rfl
theorem NA s:∃p c,ci s=p++[c]/\(c=32\/c=44):=by
 unfold ci;split;. exact(ax [] 44 ⟨rfl,.inr rfl⟩)
 . exact(ax [32,44] 32 ⟨rfl,.inl rfl⟩)
 . exact(ax [44] 32 ⟨rfl,.inl rfl⟩)
theorem D2(z:dk (.a i)=some g)(q:bA (.a i)=true):ry ((an.a i).b s)=g:=by
 refine bg (NA s) λp c e j=>?_
 rw [lw];induction i with|e u=>
cases z;have:cE s++dz s (.e g)=(cE s++[106,97,108]++32::[122,101,114,111]++p)++c::g:=by refine(?_:cE s++([106,97,108]++32::([122,101,114,111]++ci s++g))=_);refine J e ?_;simp
rw [this];exact D1 j (iX q)|b k a y u=>
cases z;have:cE s++dz s (.b k a y g)=(cE s++k.a++32::(a.b++ci s++y.b)++p)++c::g:=by refine(?_:cE s++(k.a++32::(a.b++ci s++(y.b++ci s++g)))=_);conv=>{lhs;rw [e]};conv=>{rhs;rw [e]};simp
exact J this (D1 j (iX q))|_=>exact C z
def nQ(t:B):B:=(t.dropWhile ca).takeWhile λc=>c !=32
theorem Cw s i:nQ ((an.a i).b s)=i.a:=by
 refine J (lw _ _) ?_;unfold nQ;refine J (uh (mQ s)) (ae (nZ (mz i)) λz O=>?_);refine bg z λa r e y=>?_;have:(dz s i).dropWhile ca=dz s i:=by unfold dz;refine J e (J hx ?_);exact J (nb (by simp [y])) rfl
 refine J this ?_;unfold dz;refine F5 (λx q=>?_) rfl;have:=r_ (mz i) x q;have j:x≠32:=λe=>by subst e;exact absurd this (by decide)
 simp [j]
noncomputable def hS(l:A):B:=l.2.b l.1
theorem ws{L}(w:bA l.2=true)(j:bA (bS L l).2=true)(h:hS (bS L l)=hS l):bS L l=l:=by
 refine fC (o:=dk l.2) (λq=>?_) λg q=>?_;. refine ae (DV q) λa o=>?_;exact wr L a o
 . have z:dk (kK L l.2)=some (cl L [] g):=by clear h j w;obtain⟨s,r⟩:=l;induction r with
|a i=>induction i<;>first|((cases q);rfl)|exact C q
|_=>exact C q
   have y:dD l.2=true:=by clear z h j w;obtain⟨s,r⟩:=l;induction r with|a i=>rfl|_=>exact C q
   refine go (pz y) λs i m=>?_;subst m;have u:dD (bS L (s,.a i)).2=true:=by refine J (iN _ _) (J (C6 _ _) ?_);rfl
   refine go (pz u) λp t d=>?_;have f:ry (hS (s,.a i))=g:=D2 q w;rw [<-iN,d]at z;rw [d]at j h;have c:ry (hS (p,.a t))=cl L [] g:=D2 z j;rw [h,f]at c;unfold bS;rw [if_pos];clear f d h u y w;induction i with|e v=>refine J (ag q) (?_:an.a (.e _)=_);exact J (aN c) rfl|b k a o v=>refine J (ag q) (?_:an.a (.b k a o _)=_);exact J (aN c) rfl|_=>exact C q
theorem M' L w g r:∀c,r=c.map (bS L)->(b' w g r).map hS=c.map hS->(∀l∈c,bA l.2=true/\bA (bS L l).2=true)->b' w g r=c:=by
 refine rC (u:=λw g a b=>∀c:List A,a=c.map (bS L)->b.map hS=c.map hS->(∀l∈c,bA l.2=true/\bA (bS L l).2=true)->b=c) ?_ ?_ ?_ ?_ ?_ ?_ w g r;. intro w g c y z _;clear z;induction c using List.casesOn with|nil=>rfl|cons=>cases y
 . intro w g l u _ p c y z o;induction c using List.casesOn with|nil=>cases y|cons x c=>simp only [List.map_cons,List.cons.injEq]at y z;refine J (p c y.2 z.2 λl t=>o l (.tail _ t)) ?_;have f:=o x (.head _);rw [y.1]at z⊢;exact J (ws f.1 f.2 z.1) rfl
 . intro w g l u _ _ p c y z o;induction c using List.casesOn with|nil=>cases y|cons x c=>simp only [List.map_cons,List.cons.injEq]at y z;refine J (p c y.2 z.2 λl t=>o l (.tail _ t)) ?_;have f:=o x (.head _);rw [y.1]at z⊢;exact J (ws f.1 f.2 z.1) rfl
 . intro w g s d m Q O D q u _ _ _ _ p c y z o;have k:=aJ List.length y;have n:=aJ List.length z;have:=(pF w g u).1;simp only [List.length_cons,List.length_map]at k n;lia
 . intro w g s i u _ _ p c y z o;have k:=aJ List.length y;have n:=aJ List.length z;have:=(pF w g u).1;simp only [List.length_cons,List.length_map]at k n;lia
 . intro w g s i u _ _ p c y z o;induction c using List.casesOn with|nil=>cases y|cons x c=>
simp only [List.map_cons,List.cons.injEq]at y z;refine J (p c y.2 z.2 λl t=>o l (.tail _ t)) ?_;have f:=o x (.head _);clear p;rcases vr s i g with e|⟨d,v,m,Q,rfl,rfl,e⟩;. rw [e]at z⊢;dsimp only at z⊢;rw [y.1]at z⊢;exact J (ws f.1 f.2 z.1) rfl
. exfalso;rw [e]at z;have h:hL x.2=true:=by refine(C8 L _).symm.trans (J y.1.symm ?_);rfl
  have Z:d' x.2=false/\jY x.2=false:=by clear z y f o;obtain⟨C,U⟩:=x;induction U with
|a j=>induction j<;>first|exact⟨rfl,rfl⟩|exact am h
|_=>exact am h
  rw [(wr L Z.1 Z.2)]at y;have Y:nQ (hS (0,an.a (.d d v .c)))=nQ (hS (s,.a (.f .a d m))):=by exact J y.1 (aJ nQ z.1)
  have G:nQ (hS (0,an.a (.d d v .c)))=[97,100,100,105]:=Cw 0 _;have W:nQ (hS (s,an.a (.f .a d m)))=[108,119]:=Cw s _;rw [G,W]at Y;exact d_ Y rfl
theorem QE{j}(h:fW j z)(c:j≠[])(e:cB (cF z)=cB z):cF z=z:=by
 have f:∀z:List A,bZ z=j->z≠[]:=by rintro _ q rfl;exact c q.symm
 have m:=wV h;have o:∀z:List A,fW j z->cc 10 (cB z)=z.map hS:=λz g=>by refine xk (by simpa using f z g.b) λt p=>?_;refine D (cG.mp p) λl y r=>?_;exact J r.symm ((r' l (g.a l y)).1)
 have u:(cF z).map hS=z.map hS:=by refine(aN (o _ m)).trans (J (aN (o _ h)) ?_);exact J e rfl
 have v:=aJ List.length u;rw [bU,bU]at v;have i:=(ka false z).length_le;have n:(cO (bE false z)).length=(bE false z).length:=(bU _);refine ae (rO (cO (bE false z))) λs k=>?_;have b:=(pF [(0,0)] none (bG (cO (bE false z)))).1;have w:cF z=b' [(0,0)] none (bG (cO (bE false z))):=rfl;rw [<-w]at b;rw [(k (by lia)),((ka false z).eq_of_length (by lia))]at w;have d:∀l∈z,gT j l.2:=λl y=>⟨h.a l y,h.e l y⟩;rw [w]at u⊢;exact M' (a' z) _ _ _ z rfl u λl y=>⟨h.a l y,(uJ d (d l y)).1⟩
inductive bc where|c(z:A)|d(s:Nat)
noncomputable def jo:Nat->B|0=>[9,106,97,108,32,122,101,114,111,44,32,56]|1=>[32,32,32,32,98,101,113,32,116,48,44,116,49,44,45,52]|_=>[9,97,117,105,112,99,32,116,48,32,44,32,48]
noncomputable def tP:Nat->B|0=>[106,97,108]|1=>[98,101,113]|_=>[97,117,105,112,99]
noncomputable def tw:Nat->List B|0=>[[122,101,114,111],[56]]|1=>[[116,48],[116,49],[45,52]]|_=>[[116,48],[48]]
def bc.a:bc->V|.c z=>z.l|.d s=>.k [.a (jo s),.a [99,111,100,101],.a (tP s),ah (tw s)]
noncomputable def bc.h:bc->Bool|.c z=>bA z.2|.d _=>true
noncomputable def fp(z:List bc):V:=.d (z.map bc.a)
theorem AV(l:bc):dB 0 l.a=true:=by induction l with|c l=>exact oZ l|d s=>exact cy (lq _) rfl
@[simp]theorem AT(l:List bc):dB 0 (fp l)=true:=kz AV l
theorem H_ w n(h:3<n)s(y:s<=2)z:I w n 3 [.a (jo s)] z=some ((bc.d s).a,z):=by
 refine J (dx h) ?_;rcases s with _|_|_|s;. kernel_rfl
 . kernel_rfl
 . kernel_rfl
 . lia
theorem Ga:∃a b,aj 6=some (.a a)/\aj 7=some (.a b)/\(∀c,qE c=true->c∈a)/\∀c,nK c=true->c∈b:=by
 refine(ax _ _ ⟨rfl,rfl,λc z=>?_,λc z=>?_⟩)
 . have y:c<127:=by
    unfold qE at z;simp only [Bool.or_eq_true,Bool.and_eq_true,beq_iff_eq]at z;rcases z with(⟨_,h⟩|⟨_,h⟩)|h;. exact au (ex h) (by decide)
    . exact au (ex h) (by decide)
    . exact au (de h) (by decide)
   have:((List.range 127).all λc=>!qE c||((match aj 6 with|some (.a a)=>a|_=>[]).contains c))=true:=by decide+kernel
   have:=cs.mp this c (fJ.mpr y);replace this:=z▸this;exact hZ.mp this
 . have y:c<127:=by have:=DA z;unfold iL at this;simp only [Bool.and_eq_true]at this;exact au (ex this.1.1.1.1.2) (by decide)
   have:((List.range 127).all λc=>!nK c||((match aj 7 with|some (.a a)=>a|_=>[]).contains c))=true:=by decide+kernel
   have:=cs.mp this c (fJ.mpr y);replace this:=z▸this;exact hZ.mp this
theorem QA{p}{t}(h:∀c∈t,p c=true):dI p t=[]:=by
 unfold dI;have:t.dropWhile p=[]:=by have:=uh (w:=t) (x:=[]) h;simpa using this
 exact J this rfl
theorem Qb{z:Type}a b(l:List z):ce (a::b::l) (some 1) (some 2)=[b]:=by simpa using(Ek (a::b::l) 1 1)
theorem zF w n(h:8<n)g(q:dn g=true)u:I w n 8 [.a g] u=some (.h true,u):=by refine gN Ga λA B o d f p=>?_;have z:=(aE q).2;have m:=(aE (aE q).1).2;clear q;have y:dI (λx=>B.contains x) g=[]:=QA λc t=>hZ.mpr (p c (cs.mp m c t));refine ct (f:=qN) h rfl (by decide) rfl rfl rfl (z:=[]) (v:=.h true) ?_ rfl;clear m;induction g using List.casesOn with|nil=>exact am z|cons a r=>
by_cases j:a=46;. subst j;induction r using List.casesOn with|nil=>exact am z|cons b r=>simp [qN,yL,o,d,Qb,(f b z)]at y⊢;exact y
. simp [qN,yL,o,d,j,(f a ((if_neg j).symm.trans z))]at y⊢;exact y
theorem IC w n(h:8<n)z:I w n 8 [.a [102]] z=some (.h true,z):=zF w n h _ (by decide) z
theorem A6 w n(h:8<n)z:I w n 8 [.a [56]] z=some (.h false,z)/\I w n 8 [.a [45,52]] z=some (.h false,z):=by exact J (dx h) ⟨by kernel_rfl,by kernel_rfl⟩
noncomputable def bc.b:bc->B|.c z=>z.2.b z.1|.d s=>jo s
noncomputable def bc.e:bc->B|.c z=>z.2.j|.d s=>tP s
noncomputable def bc.j:bc->B|.c z=>z.2.i|.d _=>[99,111,100,101]
noncomputable def bc.l:bc->List B|.c z=>z.2.k|.d s=>tw s
section
variable{l:bc}
@[simp]theorem Ul:jG l.a 0=some (.a l.b):=by induction l<;>rfl
@[simp]theorem Um:jG l.a 2=some (.a l.e):=by induction l<;>rfl
end
theorem OX(h:c∉s):lt c s=-1:=by unfold lt;exact J (uc h) rfl
theorem OW(h:c∉s):lt c (s++[c])=(s.length:Int):=by unfold lt fP;refine J (hZ.mpr (by simp)) (J oJ ?_);refine J ya (J lT ?_);have:du c (c::s.reverse)=([],[c],s.reverse):=E1 (a:=[]) (λh=>nomatch h);refine J this ?_;simp
theorem Jc:((List.range 3).all λk=>([an.g,.f true,.f false,.e .e,.e .f,.e .d,.e .g,.e .c,.e .h,.c .f,.c .b,.c .d,.c .g,.c .e,.c .c,.c .a]:List an).all λr=>!((du 35 (r.b k)).1).contains 58)=true:=by decide+kernel
theorem Jb:((List.range 3).all λk=>!((du 35 (jo k)).1).contains 58)=true:=by decide+kernel
theorem BH s:∃k,k<=2/\(bc.d s).a=(bc.d k).a/\jo s=jo k/\tP s=tP k/\tw s=tw k:=by
 rcases s with _|_|s;. exact⟨0,by decide,rfl,rfl,rfl,rfl⟩
 . exact⟨1,by decide,rfl,rfl,rfl,rfl⟩
 . exact⟨2,by decide,rfl,rfl,rfl,rfl⟩
theorem nJ{c}{s:B}(h:(!s.contains c)=true):c∉s:=λq=>by rw [hZ.mpr q]at h;exact am h
theorem Ja(l:bc)(h:l.h=true):(∃j,l.b=j++[58]/\dn j=true)\/58∉(du 35 l.b).1:=by induction l with|d s=>refine vR (BH s) λk u O e O=>?_;refine .inr (?_:58∉(du 35 (jo s)).1);exact J e (nJ (cs.mp Jb k (fJ.mpr (au u (by decide)))))|c l=>
obtain⟨s,r⟩:=l;have y:∀r:an,r∈([an.g,.f true,.f false,.e .e,.e .f,.e .d,.e .g,.e .c,.e .h,.c .f,.c .b,.c .d,.c .g,.c .e,.c .c,.c .a])->58∉(du 35 (r.b s)).1:=λr w=>by refine D (nI s) λk u e=>?_;exact J (e _) (nJ (cs.mp (cs.mp Jc k (fJ.mpr (au u (by decide)))) r w))
induction r with|d j=>exact .inl ⟨j,rfl,h⟩|a i=>
refine .inr ?_;have n:∀z,iL z=false->z≠32->z≠44->z∉cE s->z∉(an.a i).b s:=λz m p t v=>by refine J (lw _ _) (J (propext cr) ?_);refine J (propext not_or) ?_;exact⟨v,lz h m p t⟩
have o:∀z,ca z=false->z∉cE s:=λz x w=>am (x.symm.trans (mQ s z w));exact J (xF (n 35 (by decide) (by decide) (by decide) (o 35 (by decide+kernel)))) (n 58 (by decide) (by decide) (by decide) (o 58 (by decide+kernel)))|g=>exact .inr (y .g (by repeat first|exact .head _|refine .tail _ ?_))|f b=>exact .inr (y (.f b) (by clear h;induction b<;>(repeat first|exact .head _|refine .tail _ ?_)))|e q=>exact .inr (y (.e q) (by clear h;induction q<;>(repeat first|exact .head _|refine .tail _ ?_)))|c q=>exact .inr (y (.c q) (by clear h;induction q<;>(repeat first|exact .head _|refine .tail _ ?_)))
theorem IZ u g:∃z,fh (bi u) (.a g) (.d true)=bi z/\(∀x∈z,x∈u\/x=g)/\z.length<=u.length+1:=by induction u with|nil=>exact⟨[g],rfl,λx j=>.inr (bF.mp j),by simp⟩|cons y u o=>
refine gn o λz e w d=>?_;by_cases h:y=g;. clear w e;refine J h.symm ?_;exact⟨y::u,by exact(if_pos rfl).trans rfl,λx j=>.inl j,by simp⟩
. refine⟨y::z,by refine(if_neg (by simpa using h)).trans (J e ?_);rfl,λx j=>?_,by simp;exact d⟩;refine dF j ?_ λj=>?_;. exact .inl (.head _)
  . refine(w x j).elim (λq=>?_) λq=>?_;. exact .inl (.tail _ q)
    . exact .inr q
theorem F9:∃z:List B,aj 8=some (.g (z.map .a)):=⟨[[46,116,101,120,116],[46,100,97,116,97],[46,114,111,100,97,116,97],[46,98,115,115],[46,115,101,99,116,105,111,110]],rfl⟩
inductive yX(u q:List bc)(w:ao)(o:af):Prop|a(b:Bool)(x y z:Option V)(j:List B)(_:w=[some (fp u),some (.c 0),some (.h b),x,y,z])(_:o=[.e (bi j)])(_:(∀g∈j,dn g=true))(_:j.length+q.length<=u.length)(_:∀l∈q,l.h=true)
theorem J1{z}{y}:jN z y [] q j=some (.a,q,j):=rfl
theorem J0{z}{y}{j}:jN z y (x::j) u g=(z x u g).bind λr=>(y r.1 r.2).bind λq=>match q.1 with|.b v=>some (.b v,q.2)|_=>jN z y j q.2.1 q.2.2:=rfl
theorem Ir w n(h:9<n)o(Q:o.length<ak)(G:∀l∈o,l.h=true)i:∃j,I w n 9 [fp o] i=some (.e (bi j),i)/\∀g∈j,dn g=true:=by
 have L:ak=1000000:=rfl;refine av F9 λt r=>?_;have J:∃j,(∀g∈j,dn g=true)/\bu (aI aj (I w 9) w iU (cu pf [fp o]) []) (.c 0) [.e (bi j)]:=by
  have S:az aj (I w 9) w (ab iU 0) (cu pf [fp o]) []=some (.a,[some (fp o),some (.c 0),some (.h true),none,none,none],[.e (bi [])]):=by simp [iU,pf,eR,gu];rfl
  have X:cA (az aj (I w 9) w (ab iU 1) [some (fp o),some (.c 0),some (.h true),none,none,none] [.e (bi [])]) (λq=>q.1=.a/\∃j,q.2.2=[.e (bi j)]/\(∀g∈j,dn g=true)/\dR q.2.1 1=some (.c 0)):=by
   refine(?_:cA (az _ _ _ (.b _ _ _ _ _ _ _ _) _ _) _);rw [ga (d:=[some (fp o),some (.c 0),some (.h true),none,none,none]) (j:=[.e (bi [])]) (c:=[.e (bi [])]) (o:=[fp o]) (f:=o.map bc.a) rfl (fb rfl) rfl];refine gr bc.a (yX o) _ ?_ ?_ o _ _ ⟨true,none,none,none,[],rfl,rfl,λO h=>absurd h fY,by simp,G⟩;. rintro A i⟨b,x,y,z,j,rfl,rfl,v,_,_⟩;exact⟨rfl,j,rfl,v,rfl⟩
   . rintro l d A i⟨b,x,y,z,j,rfl,rfl,v,P,T⟩;simp only [List.length_cons]at P;have H:bp.z (.a l.e) (.g (t.map .a))=some (t.contains l.e):=by refine(?_:eD (.a l.e) (t.map .a)=_);rw [C_]
     have p:∀f U W u,(∀g∈u,dn g=true)->u.length<=j.length+1->yX o d [some (fp o),some (.c 0),some (.h f),some l.a,U,W] [.e (bi u)]:=λf U W u a c=>⟨f,_,U,W,u,rfl,rfl,a,by lia,λl Q=>T l (.tail _ Q)⟩;have m:∀f,cA (aI aj (I w 9) w ((cz iU 1).drop 1) [some (fp o),some (.c 0),some (.h f),some l.a,y,z] [.e (bi j)]) (km (yX o d) λq=>q.1=.a/\∃j,q.2.2=[.e (bi j)]/\(∀g∈j,dn g=true)/\dR q.2.1 1=some (.c 0)):=λf=>by
      rcases Ja l (T l (.head _))with⟨g,C,s⟩|F
      . have R:=iW (iX s) (c:=58) (by decide);have TP:35∉g++[58]:=by rw [cr,not_or];exact⟨iW (iX s) (by decide),by decide⟩
        have V:=xF TP;have Z:=OW R;have M:=pW (g++[58]) g.length;have M:ce (g++[58]) none (some g.length)=g:=by rw [M];simp
        have p4:=rT R;have p5:=vL (nZ (iX s));refine gn (IZ j g) λu d1 d2 d3=>?_;have p6:eY [.e (bi j)] (.c 0) (.a g) (.h true)=some [.e (bi u)]:=by refine(lu rfl rfl (by rw [xC];exact au (ac (bw (List.length j) (List.length d+1)) P) Q)).trans ?_;rw [d1];rfl
        have Qk:∀x∈u,dn x=true:=λx hx=>by
         refine(d2 x hx).elim (λq=>?_) λzr=>?_;. exact v x q
         . subst zr;exact s
        induction f with|false=>simp [cz,iU,C,V,gL,Z];exact p _ _ _ j v (bw (List.length j) 1)|true=>simp [cz,iU,C,V,gL,Z];rw [ga (d:=[some (fp o),some (.c 0),some (.h true),some l.a,some (.b g.length),z]) (j:=[.e (bi j)]) (c:=[.e (bi j)]) (o:=[.d [.a g]]) (f:=[.a g]) rfl (by simp [C,M,p4]) rfl];rw [J0];simp [p5,p6,J1];exact p _ _ _ u Qk d3
      . have Z:=OX F;induction f<;>simp [cz,iU,gL,Z]<;>exact p _ _ _ j v (bw (List.length j) 1)
     rw [kD,if_pos (by simp)];refine(?_:cA (aI aj (I w 9) w (cz iU 1) [some (fp o),some (.c 0),some (.h b),some l.a,y,z] [.e (bi j)]) _);rw [<-List.take_append_drop 1 (cz iU 1)];obtain⟨Y,k⟩:∃Y,bp.z (.a l.e) (.g (t.map .a))=some Y:=⟨_,H⟩;have e:eD (.a l.e) (t.map .a)=some Y:=k;clear k;induction Y with|false=>exact FQ (by simp [cz,iU,r,e]) (m b)|true=>exact FQ (by simp [cz,iU,r,e]) (m (l.e==[46,116,101,120,116]))
  obtain⟨⟨fl,a0,a1⟩,e2,K,j,B,e5,E⟩:=X;dsimp only at K B E;subst K B;refine⟨j,e5,?_⟩;refine aS S (aS e2 ?_);exact aK ((N E) rfl)
 refine D J λj k1 k2=>?_;exact⟨j,ct (f:=pf) h rfl (by decide) rfl rfl (cy (AT _) rfl) k2 (sm rfl),k1⟩
theorem Ke{w}{v x}{q j u g o d f m p r k b}{s t}(e:dR z v=some (.a s))(i:¬(v=x\/z.length<=x))(l:so s (y.map (λO=>O.1))=some t)(n:y.getLast?=some c):az G h w (.h v x y Q q j u g o d f m p r k b) z a=some (.a,(z.set x (some (.a c.1))).set v (some (.a t)),a):=by refine(?_:(dR z v).bind _=_);refine J e ((if_neg i).trans ?_);refine J l (J n ?_);rfl
theorem Kf{w}{v x}{y q}{j u g o f m p r k b}{s t}(e:dR z v=some (.a s))(i:¬(v=x\/z.length<=x))(l:pV s c=some t)(n:c.getLast?=some d):az G h w (.i v x c y q j u g o f m p r k b) z a=some (.a,(z.set x (some (.a [d]))).set v (some (.a t)),a):=by refine(?_:(dR z v).bind _=_);refine J e ((if_neg i).trans ?_);refine J l (J n ?_);rfl
def ll(t:B):B:=(du 45 (du 43 t).1).1
def rI(t:B):Option (List B):=(so t [[32,43],[43,32],[32,45],[45,32]]).bind λp=>(pV p [40,41,44,9]).map cn
noncomputable def tj:List cT:=[.e,.f,.d,.g,.c,.h]
theorem yG r:r∈tj:=by induction r<;>decide
theorem Py:((List.range 3).all λk=>tj.all λd=>tj.all λa=>(match rI ((an.a (.d d a .e)).b k)with|some z=>z.all λx=>ll x==x||ll x==[]|none=>false))=true:=by decide+kernel
theorem Pw:(match rI (jo 1)with|some z=>z.all λx=>ll x==x||ll x==[]|none=>false)=true:=by decide+kernel
theorem Px:((List.range 3).all λk=>([an.g,.f true,.f false,.e .e,.e .f,.e .d,.e .g,.e .c,.e .h,.c .f,.c .b,.c .d,.c .g,.c .e,.c .c,.c .a]:List an).all λr=>!(r.b k).contains 43&&!(r.b k).contains 45)=true:=by decide+kernel
theorem DB(h:nK c=true):c≠43/\c≠45:=by constructor<;>(rintro rfl;revert h;decide)
theorem EN(h:dn g=true):43∉g/\45∉g:=by have h:=cs.mp (aE (aE h).1).2;exact⟨λq=>(DB (h _ q)).1 rfl,λq=>(DB (h _ q)).2 rfl⟩
def gt(t:B):Bool:=!t.contains 43&&!t.contains 45
theorem OA{t}(h:gt t=true):43∉t/\45∉t:=by unfold gt at h;rw [fy]at h;exact⟨nJ h.1,nJ h.2⟩
theorem DW(h:dn g=true):gt g=true:=by refine ae (EN h) λa b=>?_;unfold gt;refine J (uc a) (J (uc b) ?_);rfl
theorem jw(r:cT):gt r.b=true:=by induction r<;>decide
theorem DI(r:eS):gt r.a=true:=by induction r<;>decide
theorem Cu:(jX.all λl=>gt ([37,104,105,40]++l++[41])&&gt ([37,108,111,40]++l++[41]))=true:=by decide+kernel
theorem Pu(h:bA (.a Q)=true)(O:∀G a,Q≠.d G a .e):43∉(an.a Q).b s/\45∉(an.a Q).b s:=by
 have F:gt Q.a=true:=by clear O h;induction Q with|g e=>induction e<;>rfl|c e=>induction e<;>rfl|f e=>induction e<;>rfl|b e=>induction e<;>rfl|_=>rfl
 have P:∀t∈Q.h,gt t=true:=by
  refine cs.mp ?_;have z:∀a w:B,gt a=true->gt w=true->[a,w].all gt=true:=λa w U W=>by refine jj.trans (J jj ?_);refine J U (J W ?_);rfl
  have Y:∀a w f:B,gt a=true->gt w=true->gt f=true->[a,w,f].all gt=true:=λa w f U W T=>by refine jj.trans (J jj ?_);refine J jj (J U ?_);refine J W (J T ?_);rfl
  clear F;induction Q with
|b k x y g=>exact Y _ _ _ (jw _) (jw _) (DW h)|e g=>exact z _ _ rfl (DW h)|n g=>have:=cs.mp Cu g (hZ.mp h);rw [fy]at this;exact z _ _ rfl this.1|m g=>have:=cs.mp Cu g (hZ.mp h);rw [fy]at this;exact Y _ _ _ rfl rfl this.2|d G w D=>refine Y _ _ _ (jw _) (jw _) ?_;clear h;induction D<;>first|rfl|exact absurd rfl (O G w)
|i G D=>refine z _ _ (jw _) ?_;clear O;induction D<;>first|rfl|exact am h
|g e G w f=>exact Y _ _ _ (jw _) (jw _) (jw _)|c e v R=>exact z _ _ (jw _) (DI _)|f e v R=>exact z _ _ (jw _) (DI _)|k=>rfl|j=>rfl|l=>rfl|o G=>exact z _ _ (jw _) rfl|p G=>exact z _ _ (jw _) rfl
 have Z:∀f,f=43\/f=45->f∉(an.a Q).b s:=λf M u=>by
  have C:∀t,gt t=true->f∉t:=λt V=>by
   refine ae (OA V) λa w=>?_;clear u;rcases M with rfl|rfl;. exact a
   . exact w
  rw [lw]at u;rcases cr.mp u with q|q
  . have:=mQ s f q;clear q C u;rcases M with rfl|rfl;. exact absurd this (by decide+kernel)
    . exact absurd this (by decide+kernel)
  . unfold dz at q;rw [cr,kn]at q;rcases q with q|q|q;. exact C _ F q
    . lia
    . rcases FU q with q|⟨t,q,r⟩;. have:=DF q;lia
      . exact C _ (P t q) r
 exact⟨Z 43 (.inl rfl),Z 45 (.inr rfl)⟩
def td(t:B):Prop:=(43∉t/\45∉t)\/∃z,rI t=some z/\∀x∈z,ll x=x\/ll x=[]
theorem OC(l:bc)(h:l.h=true):td l.b:=by
 have conv:∀t:B,(match rI t with|some w=>w.all λx=>ll x==x||ll x==[]|none=>false)=true->td t:=λt q=>by
  refine fC (o:=rI t) (λj=>?_) λw j=>?_;. rw [j]at q;exact am q
  . rw [j]at q;refine .inr ⟨w,j,λx p=>?_⟩;simpa using(cs.mp q x p)
 induction l with|d s=>
clear h;rcases s with _|_|s;. exact .inl (by decide)
. exact conv _ Pw
. exact .inl (by refine(?_:43∉jo 2/\45∉jo 2);decide)|c l=>
obtain⟨s,r⟩:=l;have y:∀r:an,r∈([an.g,.f true,.f false,.e .e,.e .f,.e .d,.e .g,.e .c,.e .h,.c .f,.c .b,.c .d,.c .g,.c .e,.c .c,.c .a])->td (r.b s):=λr u=>by refine D (nI s) λk o e=>?_;refine J (e _) ?_;have:=cs.mp (cs.mp Px k (fJ.mpr (au o (by decide)))) r u;rw [fy]at this;exact .inl ⟨nJ this.1,nJ this.2⟩
induction r with|d m=>refine ae (EN (g:=m) h) λa b=>?_;refine .inl (?_:43∉m++[58]/\45∉m++[58]);simp [a,b]|a i=>
have h:bA (.a i)=true:=h;refine(?_:td ((an.a i).b s));by_cases u:∃z a,i=.d z a .e;. clear h;clear h;refine go u λz a v=>?_;(refine J v ?_);refine D (nI s) λk o e=>?_;exact J (e _) (conv _ (cs.mp (cs.mp (cs.mp Py k (fJ.mpr (au o (by decide)))) z (yG z)) a (yG a)))
. exact .inl (Pu h λz a e=>u (ax z a e))|g=>exact y .g (by repeat first|exact .head _|refine .tail _ ?_)|f b=>exact y (.f b) (by clear h;induction b<;>(repeat first|exact .head _|refine .tail _ ?_))|e z=>exact y (.e z) (by clear h;induction z<;>(repeat first|exact .head _|refine .tail _ ?_))|c z=>exact y (.c z) (by clear h;induction z<;>(repeat first|exact .head _|refine .tail _ ?_))
theorem Oo{z}(h:∀g∈z,dn g=true):(bD (bi z) (.a [])).isSome=false:=by refine(ug _ _).trans ?_;exact e' λy=>by have:=h _ y;revert this;decide
theorem H7 w n(h:10<n)(l:bc)(m:l.h=true)d(t:∀g∈d,dn g=true)c:I w n 10 [l.a,.e (bi d)] c=some (.h false,c):=by
 refine ct (f:=kE) h rfl (by decide) rfl rfl (by simp [c_,AV,Hj]) (z:=[]) (v:=.h false) ?_ rfl;refine(OC l m).elim (λr=>?_) λr=>?_;. refine ae r λa Z=>?_;simp [kE,oX,a,Z]
 . refine D r λO v k=>?_;by_cases f:43∉l.b/\45∉l.b;. simp [kE,oX,f.1,f.2]
   . refine D (qq.mp v) λp Y v=>?_;refine D (fI.mp v) λq Q U=>?_;subst U;have G:az aj (I w 10) w (ab oX 0) (cu kE [l.a,.e (bi d)]) []=some (.a,cu kE [l.a,.e (bi d)],[]):=by
      simp only [not_and,Classical.not_not]at f;by_cases b:43∈l.b;. simp [kE,oX,b]
      . simp [kE,oX,b,f b]
     refine aS G (aS (z:=[some l.a,some (.e (bi d)),some (.a l.b),none,none,none]) (y:=[]) (by simp [kE]) ?_);refine aS (Ke (s:=l.b) (t:=p) rfl (by simp) Y rfl) (aS (Kf (s:=p) (t:=q) rfl (by simp) Q rfl) ?_);refine i' (J (ga (d:=[some l.a,some (.e (bi d)),some (.a q),some (.a [45,32]),some (.a [9]),none]) (j:=[]) (c:=[]) (o:=[.d ((cn q).map .a)]) (f:=(cn q).map .a) rfl (rfl) rfl) ?_);refine gr V.a (λu e c=>∃x,e=[some l.a,some (.e (bi d)),some (.a q),some (.a [45,32]),some (.a [9]),x]/\c=[]/\∀y∈u,y∈cn q) _ ?_ ?_ (cn q) _ _ ⟨none,rfl,rfl,λy o=>o⟩;. rintro e c⟨x,rfl,rfl,_⟩;exact aK rfl
     . rintro y u e c⟨x,rfl,rfl,s⟩;have o:=k y (s y (.head _));unfold ll at o;have j:∀z∈u,z∈cn q:=λz W=>s z (.tail _ W);refine o.elim (λo=>?_) λo=>?_
       . refine tS (b:=(bD (bi d) (.a y)).isSome) (λi=>?_) λi=>?_;. simp [gL,o,mS,i];exact j
         . simp [gL,o,mS,i];exact j
       . have:=Oo t;simp [gL,o,mS,this];exact j
noncomputable def kP:B:=[97,117,105,112,99]
noncomputable def bc.f:bc->Bool|.d _=>true|.c _=>false
def bc.k:bc->Bool|.c (_,.d z)=>!(z==kP)|_=>true
@[simp]theorem Cp{l}:bp z .Eq (ah (a::l)) (.d [])=some false:=by refine(?_:(if(V.a a::l.map V.a).length=([]:List V).length then h' (ep 5) (V.a a::l.map V.a) []else some false)=_);exact if_neg λh=>nomatch h
theorem F4(x:B):ce x none (some 1)=x.take 1:=pW x 1
theorem ly{w}{l:bc}{j}{v}(u:I w 11 10 [l.a,.e (bi j)] []=some (.h false,[]))(q:decide (l.e=[97,117,105,112,99])=false)(g:([98]==l.e.take 1||[106]==l.e.take 1)=false\/l.e=[106,97,108,114]\/l.j=[108,97,98,101,108]):aI aj (I w 11) w (cz qG 1) [some v,some (.e (bi j)),some l.a] []=some (.a,[some v,some (.e (bi j)),some l.a],[]):=by
 have f:jG l.a 1=some (.a l.j):=by rcases l with⟨s,r⟩|s<;>rfl
 have z:jG l.a 2=some (.a l.e):=by rcases l with⟨s,r⟩|s<;>rfl
 generalize l.a=m at*;generalize l.e=x at*;generalize l.j=y at*;clear l;have q:(x==[97,117,105,112,99])=false:=dA.mpr (lj q);have c:([98]==ce x none (some 1)||([106]==ce x none (some 1)||false))=([98]==x.take 1||[106]==x.take 1):=by refine J (F4 _) (J (lU _) ?_);rfl
 by_cases o:x=[106,97,108,114];. subst o;exact eF ((N z) ((H u) ((N z) ((N z) rfl))))
 . have d:(!(x==[106,97,108,114]))=true:=aJ (!.) (dA.mpr o);induction h:([98]==x.take 1||[106]==x.take 1)with|false=>exact eF ((N z) ((as q) ((H u) ((N z) ((as (c.trans h)) rfl)))))|true=>
rcases g with g|rfl|rfl;. exact am (g.symm.trans h)
. exact absurd rfl o
. exact eF ((N z) ((as q) ((H u) ((N z) ((aZ (c.trans h)) ((N z) ((aZ d) ((N f) rfl))))))))
theorem xQ{w}{l:bc}{j}{v}{g}{z}(p:I w 11 10 [l.a,.e (bi j)] []=some (.h false,[]))(t:I w 11 8 [.a g] []=some (.h true,[]))(u:decide (l.e=[97,117,105,112,99])=false)(k:([98]==l.e.take 1||[106]==l.e.take 1)=true)(o:decide (l.e=[106,97,108,114])=false)(d:decide (l.j=[108,97,98,101,108])=false)(m:l.l=z++[g]):aI aj (I w 11) w (cz qG 1) [some v,some (.e (bi j)),some l.a] []=some (.a,[some v,some (.e (bi j)),some l.a],[]):=by
 have b:jG l.a 1=some (.a l.j):=by rcases l with⟨s,r⟩|s<;>rfl
 have c:jG l.a 2=some (.a l.e):=by rcases l with⟨s,r⟩|s<;>rfl
 have f:jG l.a 3=some (ah l.l):=by rcases l with⟨s,r⟩|s<;>rfl
 rw [m]at f;clear m;generalize l.a=a at*;generalize l.e=x at*;generalize l.j=y at*;clear l;have u:(x==[97,117,105,112,99])=false:=dA.mpr (lj u);have o:(!(x==[106,97,108,114]))=true:=aJ (!.) (dA.mpr (lj o));have d:(!(y==[108,97,98,101,108]))=true:=aJ (!.) (dA.mpr (lj d));have e:([98]==ce x none (some 1)||([106]==ce x none (some 1)||false))=([98]==x.take 1||[106]==x.take 1):=by refine J (F4 _) (J (lU _) ?_);rfl
 have i:∀q,bp q .Eq (ah (z++[g])) (.d [])=some false:=λq=>by cases z<;>exact Cp
 have n:∀q,a_ q (ah (z++[g])) (.b (-1))=some (.a g):=λq=>by refine(?_:bM ((z++[g]).map V.a) (-1)=_);rw [fz];exact mA _ _
 exact eF ((N c) ((as u) ((H p) ((N c) ((aZ (e.trans k)) ((N c) ((aZ o) ((N b) ((aZ d) ((N f) ((eJ (i _)) ((N f) ((N (n _)) ((H t) rfl))))))))))))))
theorem R6{w}{q:bc}{u}{v}(h:q.h=true)(p:q.k=true)(f:∀g∈u,dn g=true):aI aj (I w 11) w (cz qG 1) [some v,some (.e (bi u)),some q.a] []=if q.f then some (.b (.h false),[some v,some (.e (bi u)),some q.a],[])else some (.a,[some v,some (.e (bi u)),some q.a],[]):=by have z:=H7 w 11 (by decide) q h u f [];induction q with
|d s=>
refine gn (BH s) λk t e O=>?_;rw [e]at z⊢;clear e;rcases k with _|_|_|k;. exact eF ((H z) ((H ((A6 w 11 (by decide) []).1)) rfl))
. exact eF ((H z) ((H ((A6 w 11 (by decide) []).2)) rfl))
. exact eF rfl
. lia|c q=>refine Eq.trans ?_ (if_neg iD).symm;obtain⟨s,r⟩:=q;induction r with
|a i=>induction i with|b k x y g=>exact xQ (z:=[x.b,y.b]) z (zF w 11 (by decide) g h []) (by induction k<;>rfl) (by induction k<;>rfl) (by induction k<;>rfl) rfl rfl|e g=>exact xQ (z:=[[122,101,114,111]]) z (zF w 11 (by decide) g h []) rfl rfl rfl rfl rfl|l=>exact xQ (z:=[[114,97]]) z (IC w 11 (by decide) []) rfl rfl rfl rfl rfl|g o=>exact ly z (by induction o<;>rfl) (.inl (by induction o<;>rfl))|c o=>exact ly z (by induction o<;>rfl) (.inl (by induction o<;>rfl))|f o=>exact ly z (by induction o<;>rfl) (.inl (by induction o<;>rfl))|k=>exact ly z rfl (.inr (.inl rfl))|j=>exact ly z rfl (.inr (.inl rfl))|_=>exact ly z rfl (.inl rfl)
|d g=>exact ly z (e' λe=>by have e:g=kP:=e;subst e;exact am (show(!(kP==kP))=true from p)) (.inr (.inr rfl))|c m=>exact ly z (by induction m<;>rfl) (.inl (by induction m<;>rfl))|_=>exact ly z rfl (.inl rfl)
inductive GR(v:V)(q:List B)(y:Bool)(z:List bc)(j:ao)(u:af):Prop|a(x:_)(_:j=[some v,some (.e (bi q)),x])(_:u=[])(_:z.any bc.f=y)(_:∀l∈z,l.h=true/\l.k=true)
theorem Bb w n(h:11<n)z(g:z.length<ak)(q:∀l∈z,l.h=true/\l.k=true)j:I w n 11 [fp z] j=some (.h (!z.any bc.f),j):=by
 refine D (Ir w 11 (by decide) z g (λl m=>(q l m).1) []) λu p o=>?_;refine ct (f:=zs) h rfl (by decide) rfl rfl (cy (AT _) rfl) (z:=[]) (v:=.h (!z.any bc.f)) ?_ rfl;refine aS (z:=[some (fp z),some (.e (bi u)),none]) (y:=[]) (aA ((H p) rfl)) (i' ?_);refine J (ga (d:=[some (fp z),some (.e (bi u)),none]) (j:=[]) (c:=[]) (o:=[fp z]) (f:=z.map bc.a) rfl (fb rfl) rfl) (gr bc.a (GR (fp z) u (z.any bc.f)) _ ?_ ?_ z _ _ ⟨none,rfl,rfl,rfl,q⟩);. rintro t j⟨x,rfl,rfl,y,_⟩;simp only [List.any_nil]at y;exact J (aN y) (aK rfl)
 . rintro l c t j⟨x,rfl,rfl,y,d⟩;refine J kD (J (if_pos (by simp)) ?_);refine(?_:cA (aI aj (I w 11) w (cz qG 1) [some (fp z),some (.e (bi u)),some l.a] []) _);refine J (R6 (d l (.head _)).1 (d l (.head _)).2 o) ?_;rw [List.any_cons]at y;induction f:l.f with|true=>rw [f]at y;refine J (aN y) ?_;simp [kx]|false=>rw [f]at y;refine J (if_neg (by simp)) ?_;simp;exact⟨_,rfl,rfl,by simpa using y,λl g=>d l (.tail _ g)⟩
def bc.g(z:bc):Prop:=z.h=true/\z.k=true/\∀s,z=.d s->s<=2
theorem Ib w n(h:3<n)(l:bc)(y:l.g)z:I w n 3 [.a l.b] z=some (l.a,z):=by induction l with|c l=>exact H8 w n h l y.1 z|d s=>exact H_ w n h s (y.2.2 s rfl) z
def hf(z:List bc):B:=cm [10] (z.map bc.b)
theorem xn{j:Type}{q:j->Prop}:∀z,(∀l∈z,q l)->∃y:List {l//q l},y.map Subtype.val=z:=by intro u;induction u with|nil=>intro O;exact⟨[],rfl⟩|cons a z g=>intro h;refine av (g λl w=>h l (.tail _ w)) λy e=>?_;exact⟨⟨a,h a (.head _)⟩::y,by refine J dU (J e ?_);rfl⟩
theorem JN:((List.range 3).all λk=>!(jo k).contains 10)=true:=by decide
theorem Q0(l:bc)(h:l.g):10∉l.b:=by induction l with|c l=>exact(r' l h.1).1|d s=>exact nJ (cs.mp JN s (fJ.mpr (au (h.2.2 s rfl) (by decide))))
theorem Q9(y:z≠[])(h:∀l∈z,l.g):cc 10 (hf z)=z.map bc.b:=by refine xk (by simpa using y) λt q=>?_;refine D (cG.mp q) λl j u=>?_;exact J u.symm (Q0 l (h l j))
theorem E4 w z(j:z≠[])(u:z.length<ak)(h:∀l∈z,l.g):az aj (I w 30) w (ab hA 0) [some (.a (hf z)),none,none,none] []=some (.a,[some (.a (hf z)),some (fp z),none,none],[]):=by
 refine av (xn z h) λy e=>?_;have g:z.map bc.b=y.map λx=>x.1.b:=by refine J (aN e) ?_;rw [di];rfl
 have o:y.map (λx=>V.a x.1.b)=(cc 10 (hf z)).map .a:=by rw [Q9 j h];refine J g ?_;rw [di];rfl
 have q:=nN (G:=aj) (w:=I w 30) (t:=[some (.a (hf z)),none,none,none]) (z:=[]) (o:=.g 3 [.c 0 ⟨240,23,240,26⟩] ⟨240,13,240,22⟩ ⟨240,13,240,27⟩) (x:="row") (e:=⟨240,32,240,35⟩) (i:=⟨0,0,0,0⟩) (l:=⟨0,0,0,0⟩) (s:=⟨240,12,240,56⟩) (y:=0) (f:=[(.j .l (.c 0 ⟨240,39,240,43⟩) [(.f (.d [10]) 0 ⟨240,50,240,54⟩)] ⟨240,39,240,49⟩ ⟨240,39,240,55⟩)]) (j:=[]) (n:={kind:=.function,names:=[(".0",.local),("row",.local),("read_line",.globalImplicit)],isGenerator:=false,isCoroutine:=false,more:=[]}) (d:=[.d ((cc 10 (hf z)).map .a)]) (u:=y) (λx=>V.a x.1.b) (λO=>true) (λx=>x.1.a) (fb rfl) (by rw [o];rfl) (λa=>by simp) (λa O=>by exact nr ((H (Ib w 30 (by decide) a.1 a.2 [])) rfl)) (by rw [show y.length=z.length by(refine J (aN e) ?_;rw [bU])];exact u);have d:(y.filter λO=>true).map (λx=>x.1.a)=z.map bc.a:=by rw [mZ.mpr λO O=>rfl];refine J (aN e) ?_;rw [di];rfl
 rw [d]at q;rw [hA];refine(?_:az aj (I w 30) w (.f (.a 1 _) _ _) _ _=_);simp only [zn,q];rfl
inductive jT:List A->List A->Prop where|b(z:List A):jT z z|a{z y:List A}:jT z y->jT z (cF y)
theorem wW{y}(h:jT q z)(g:fW y q):fW y z:=by induction h with|b=>exact g|a _ j=>exact wV j
theorem Ex z:bZ (bE false z)=bZ z:=by refine(pd _).trans (J (vc _ _) ?_);exact J (pd _).symm rfl
theorem MU z:bZ (cO z)=bZ z:=by refine(pd _).trans (J (D_ _ _) ?_);exact J (pd _).symm rfl
theorem ED w{q}(g:fW q z)(a:1000<w){t b}:aI aj (I w 30) w (cz hA 3) [some t,some (aU z),some b,some (.e (bi q))] []=some (.a,[some (.a (cB (cF z))),some (aU (cF z)),some t,some (.e (bi q))],[]):=by
 have L:ak=1000000:=rfl;have y:=g.c;have j:∀l∈bE false z,gT q l.2:=λl y=>by have o:=(ka false z).subset y;exact⟨g.a l o,g.e l o⟩
 have u:∀l∈cO (bE false z),gT q l.2:=λl y=>by refine D (cG.mp y) λc o h=>?_;exact J h.symm (uJ j (j c o))
 have f:=Ee _ u;have p:=wV g;have v:=(ka false z).length_le;have U:(cO (bE false z)).length=(bE false z).length:=(bU _);refine ae (rO (cO (bE false z))) λG O=>?_;have Z:=H6 w 30 (by decide) z (au y (by decide)) [];have k:=IF w 30 (by decide) (bE false z) q (bl (au v (au y (gY (Nat.succ 300) 700))) a) (au v (au y (by decide))) (by refine J (Ex _) (J g.b ?_);exact g.d) (λe Y=>by refine D (C4 Y) λc u f=>?_;have:=(j c u).2;rw [f]at this;exact this _ rfl) (λl y i m=>by have:=(uJ j (j l y)).1;rw [iN,m]at this;exact Cq this) [];have Q:=Ii w 30 (by decide) (cO (bE false z)) q (by lia) (by lia) (λl y x d=>⟨(u l y).2 x d,by have:=(u l y).1;clear y;obtain⟨s,r⟩:=l;induction r with
|a i=>induction i<;>first|((cases d);exact au (pK this) (by decide))|exact C d
|_=>exact C d⟩) [];have n:=IH w 30 (by decide) (bG (cO (bE false z))) (by lia) (by lia) (λl y i m=>by have:=(f l y).1;rw [m]at this;exact Cq this) [];rw [show(bE false z).map (bS (a' (bE false z)))=cO (bE false z)from rfl]at k;rw [show gP (bG (cO (bE false z)))=cF z from rfl]at n;exact eF ((H Z) ((H k) ((H Q) ((H n) ((H (Ik w 30 (by decide) (cF z) p.a p.c [])) rfl)))))
inductive GK(y:List B)(q:List A)(m:Nat)(j:ao)(u:af):Prop|a(z b:_)(_:j=[some (.a (cB z)),some (aU z),some b,some (.e (bi y))])(_:u=[])(_:jT q z)(_:((b=.j/\m=jb z+2)\/∃p,b=.a (cB p)/\fW y p/\z=cF p/\m=jb p+1))
theorem N3 w{j}(g:fW j y)(l:j≠[])(f:1000<w/\jb y+2<w):∃z,jT y z/\cF z=z/\bu (aI aj (I w 30) w (hA.drop 3) [some (.a (cB y)),some (aU y),some .j,some (.e (bi j))] []) (.a (cB z)) []:=by
 have n:cA (az aj (I w 30) w (ab hA 3) [some (.a (cB y)),some (aU y),some .j,some (.e (bi j))] []) (λq=>q.1=.a/\q.2.2=[]/\∃z,jT y z/\cF z=z/\dR q.2.1 0=some (.a (cB z))):=by
  rw [hA];refine J pD (qe (GK j y) _ ?_ w (jb y+2) _ _ ⟨y,.j,rfl,rfl,.b y,.inl ⟨rfl,rfl⟩⟩ f.2);rintro m W D⟨o,b,rfl,rfl,d,s⟩;have c:=wW d g;rcases s with⟨rfl,rfl⟩|⟨p,rfl,x,rfl,rfl⟩;. refine(ax true [] ⟨rfl,λO=>?_,λh=>am h.symm⟩);exact J (ED w c f.1) ⟨_,rfl,jb o+1,aH (Nat.succ (Mp.jb o+1)),cF o,_,rfl,rfl,.a d,.inr ⟨o,rfl,c,rfl,rfl⟩⟩
  . refine(ax (!(cB p==cB (cF p))) [] ⟨on rfl,λu=>?_,λt=>?_⟩)
    . have a:cF p≠p:=λe=>by rw [e]at u;simp at u
      have:=Ni a;exact J (ED w c f.1) ⟨_,rfl,jb (cF p)+1,eA this,cF (cF p),_,rfl,rfl,.a d,.inr ⟨cF p,rfl,c,rfl,rfl⟩⟩
    . have Z:cB (cF p)=cB p:=by
       have:cB p=cB (cF p):=by simpa using t
       exact this.symm
      have r:=QE x l Z;exact⟨rfl,rfl,cF p,d,by exact J r r,rfl⟩
 obtain⟨⟨C,Y,Q⟩,e,v,k,z,U,G,i⟩:=n;dsimp only at v k i;subst v k;refine⟨z,U,G,?_⟩;exact aS e (aK ((N i) rfl))
theorem FJ z:hf (z.map .c)=cB z:=by unfold hf cB;exact J di rfl
theorem FI z:fp (z.map .c)=aU z:=by unfold fp aU;exact J di rfl
theorem A' w n(h:30<n){c}(g:fW c z)(t:c≠[])(G:kP∉c)(v:1000<w/\jb z+2<w)k:∃y,jT z y/\cF y=y/\I w n 30 [.a (cB z)] k=some (.a (cB y),k):=by
 have L:ak=1000000:=rfl;have m:=g.c;refine gn (N3 w g t v) λy b U i=>?_;have f:∀l∈z.map bc.c,l.g:=λl u=>by refine D (cG.mp u) λx p W=>?_;subst W;refine⟨g.a x p,?_,λs q=>am (aJ bc.f q)⟩;clear u;obtain⟨s,r⟩:=x;induction r with|d a=>have:a∈bZ z:=List.mem_filterMap.mpr ⟨_,p,rfl⟩;rw [g.b]at this;refine(?_:(!(a==kP))=true);have:a≠kP:=λe=>G (e▸this);simp [this]|_=>rfl
 have O:z.map bc.c≠[]:=by
  intro q;have:z=[]:=by simpa using q
  clear q f i b m v;subst this;exact t g.b.symm
 have j:(z.map bc.c).length<ak:=by exact J (bU _) (au m (by decide))
 have Z:=E4 w (z.map .c) O j f;have Y:=Bb w 30 (by decide) (z.map .c) j (λl u=>⟨(f l u).1,(f l u).2.1⟩) [];have o:(z.map bc.c).any bc.f=false:=by refine J (propext List.any_eq_false) ?_;intro l u;refine D (cG.mp u) λx p C=>?_;subst C;simp [bc.f]
 have Q:=H2 w 30 (by decide) z (au m (by decide)) (by exact J g.b g.d) [];rw [g.b]at Q;rw [FJ,FI]at Z;rw [FI,o]at Y;refine⟨y,b,U,ct (f:=Ad) h rfl (by decide) rfl rfl (rfl) (z:=[]) (v:=.a (cB y)) ?_ (rfl)⟩;refine aS (s:=ab hA 0) (j:=hA.drop 1) Z (aS (s:=ab hA 1) (j:=hA.drop 2) (z:=[some (.a (cB z)),some (aU z),none,none]) (y:=[]) (aA ((H Y) rfl)) ?_);exact aS (s:=ab hA 2) (j:=hA.drop 3) (z:=[some (.a (cB z)),some (aU z),some .j,some (.e (bi c))]) (y:=[]) (aA ((H Q) rfl)) i
theorem H4 w n(h:30<n)(o:z≠[])(q:z.length<ak)(y:∀l∈z,l.g)(d:z.any bc.f=true)j:I w n 30 [.a (hf z)] j=some (.a (hf z),j):=by have u:=Bb w 30 (by decide) z q (λl g=>⟨(y l g).1,(y l g).2.1⟩) [];rw [d]at u;refine ct (f:=Ad) h rfl (by decide) rfl rfl (rfl) (z:=[]) (v:=.a (hf z)) ?_ (rfl);exact aS (s:=ab hA 0) (j:=hA.drop 1) (E4 w z o q y) (aK ((H u) rfl))
theorem QF(q:cF z=z)(h:jT z y):y=z:=by induction h with|b=>rfl|a _ j=>exact J j q
mutual theorem yR{n m:Nat}(h:n<=m):∀v:V,dB n v=true->dB m v=true|.c k,e=>em (bl (bt e) h)|.d z,e=>o' h z e|.g z,e=>o' h z e|.k z,e=>o' h z e|.f _,_=>rfl|.e _,_=>rfl|.i,_=>rfl theorem o'{n m:Nat}(h:n<=m):∀y:List V,c_ n y=true->c_ m y=true|[],_=>rfl|v::y,e=>cy (yR h v (aE e).1) (o' h y (aE e).2)end
theorem BC{n m}(h:n<=m):∀z,eC n z=true->eC m z=true:=by intro y;induction y with|nil=>intro O;exact rfl|cons v j q=>intro e;exact cy (yR h v (aE e).1) (q (aE e).2)
theorem BB{n}:∀a b,eC n (a++b)=(eC n a&&eC n b):=by intro z;induction z with|nil=>intro b;exact rfl|cons v a y=>intro b;refine(?_:(dB n v&&eC n (a++b))=((dB n v&&eC n a)&&eC n b));refine J (y b) (J (Bool.and_assoc _ _ _) ?_);rfl
structure hv where
a:Bool
b:List Int
c:Nat
noncomputable def ir(z:List Int):V:=.d (z.map .b)
def sd(q:hv):af:=match q.a with|true=>[ir q.b,.d [.c 0,.b (q.c:Int)]]|false=>[.d [],ir q.b,.d [.c 1,.b (q.c:Int)]]
noncomputable def qi(s:Bool):Nat:=match s with|true=>1|false=>2
noncomputable def ap(q:hv)(z:af):af:=sd q++z
structure bf(b m:Nat)(q:hv):Prop where
b:qi q.a=b
h:q.b≠[]e:∀x∈q.b,0<=x/\x<2147483648
f:q.c<=q.b.length
g:q.b.length<=q.c+61
i:q.c+m<=100000
theorem bf.a{c m k}{q}(z:bf c m q)(y:k<=m):bf c k q:=⟨z.b,z.h,z.e,z.f,z.g,ac (cX y q.c) z.i⟩
def dr(z:af):Prop:=eC 0 z=true
theorem rc n z:dB n (ir z)=true:=by induction z with|nil=>rfl|cons x z y=>exact y
theorem xR q:(sd q).length=qi q.a+1:=by unfold sd qi;induction q.a<;>rfl
theorem om(h:bf c m q)(y:bf c u j)z:(ap j z).length=(ap q z).length:=by refine J dN (J dN ?_);refine J (xR _) (J (xR _) ?_);refine J h.b (J y.b ?_);rfl
theorem RM q:eC (qi q.a+1) (sd q)=true:=by unfold sd qi;cases q.a with|true=>exact cy (rc _ _) rfl|false=>refine(?_:(dB 3 (ir q.b)&&true)=true);exact cy (rc _ _) rfl
theorem Rd q{z}(y:dr z):eC (ap q z).length (ap q z)=true:=by refine J (BB _ _) (J (fy _ _) ?_);exact⟨BC (by refine J dN (J (xR _) ?_);exact bw (Mp.qi q.a+1) (List.length z)) _ (RM q),BC (eT _) _ y⟩
theorem t_{w n k}{u}{z y}{v g}(h:k<n)(t:hG[k]?=some (some f))(r:k≠0/\k≠51)(b:f.e=1)(i:u.length=f.a)(o:bf c m q)(d:bf c x j)(l:dr z)(e:bu (aI aj (I w k) w f.c (cu f u) (ap q z)) v (ap j z++y))(s:cP (ap q z).length (ap j z++y) v=some g):I w n k u (ap q z)=some (g,ap j z):=by
 have p:(ap j z++y).take (ap q z).length=ap j z:=by refine J (aN (om o d z)) (J (List.take_append_of_le_length (aH _)) ?_);exact J sP rfl
 have:=Bc (w:=w) h t r b i e (by refine J p (J (aN (om o d z)) ?_);exact Rd j l) s;rw [p]at this;exact this
theorem px{w n k}{y}{z}{v u}(h:k<n)(g:hG[k]?=some (some f))(o:k≠0/\k≠51)(d:f.e=1)(p:y.length=f.a)(t:bf c m q)(r:bf c l j)(b:dr z)(e:bu (aI aj (I w k) w f.c (cu f y) (ap q z)) v (ap j z))(i:cP (ap q z).length (ap j z) v=some u):I w n k y (ap q z)=some (u,ap j z):=t_ (y:=[]) h g o d p t r b (by exact J (gX _) e) (by exact J (gX _) i)
theorem sg{z:Type}{l:List z}{v}(h:v<l.length):∃x∈l,bM l (v:Int)=some x:=by exact J (ik _ _) ⟨l[v],oC h,cH h⟩
theorem OP{y:Type}{l:List y}(h:l≠[]):∃x∈l,bM l (-1)=some x:=by obtain⟨z,x,rfl⟩:∃z x,l=z++[x]:=(ax l.dropLast (l.getLast h) ((List.dropLast_concat_getLast h).symm));exact⟨x,by simp,mA _ _⟩
theorem wD{z:List Int}{q:V->Prop}{x:V}(h:x∈z.map .b):∃i∈z,x=.b i:=by refine D (cG.mp h) λi y e=>?_;exact⟨i,y,e.symm⟩
theorem El(h:0<=x/\x<2147483648):cw x=true:=by have z:2^31<=2^200:=yg (by decide) (by decide);have y:x.natAbs<2^31:=Int.natAbs_lt_natAbs_of_nonneg_of_lt h.1 h.2;exact em (bl y z)
theorem PX{z}{n}{k}{v}{y}(h:z[n]?=some (.d y))(q:0<=k/\k<y.length):eY z (.c n) (.b k) v=some (z.set n (.d (y.set k.toNat v))):=by refine(?_:(z[n]?).bind _=_);exact J h (if_pos q)
theorem ok{p:Nat}(h:p<=200000):cw (p:Int)=true:=El ⟨fw p,cY.mpr (au h (by decide))⟩
theorem AZ(z:0<b)(y:cw b=true):cZ q .Mod (.b a) (.b b)=some (.b (a%b)):=by refine J (zw (Int.ne_of_gt z) y) (J (jL _ (Int.le_of_lt z)) ?_);rfl
theorem Iu w n(h:36<n){u}(a0:bf c (m+1) q)(hb:dr u)k(t:0<k)(G:k<=100):∃(v:Nat)(g:hv),v<k/\I w n 36 [.c c,.b (k:Int)] (ap q u)=some (.b (v:Int),ap g u)/\bf c m g:=by
 have L:ak=1000000:=rfl;have o:∀(g:hv)(x:Int),bf c m g->(0<=x/\x<2147483648)->bu (aI aj (I w 36) w tG.c (cu tG [.c c,.b k]) (ap q u)) (.b (x%k)) (ap g u)->∃(v:Nat)(g:hv),v<k/\I w n 36 [.c c,.b k] (ap q u)=some (.b v,ap g u)/\bf c m g:=λg x R U he=>by have e1:0<=x%k:=ku _ (Int.ne_of_gt (cY.mpr t));have e2:x%k<k:=m' _ (cY.mpr t);refine(ax ((x%k).toNat) g ⟨by lia,?_,R⟩);exact J (Int.toNat_of_nonneg e1) (px (f:=tG) h rfl (by decide) rfl rfl a0 R hb he rfl)
 have r:=ok (p:=k) (ac G (by decide));have a1:¬k=0:=iG t;have a2:∀x:Int,x.fmod (k:Int)=x%(k:Int):=λx=>jL _ (fw k);have W:∀x:Int,x.fdiv 2=x/2:=λx=>yh _ (by decide);have b:∀x:Int,x.fmod 251=x%251:=λx=>jL _ (by decide);obtain⟨d,Y,f,K,C,B⟩:=a0;obtain⟨s,j,p⟩:=q;dsimp only at d Y f K C B;by_cases hp:p=j.length
 . clear C K;subst hp;have hL:j.length<ak:=bl (au (bw (List.length j) m) B) (by decide);refine D (OP (l:=j.map V.b) (by simpa using Y)) λy hy E=>?_;refine D (wD (q:=λO=>True) hy) λy QG z1=>?_;subst z1;have e:j.length/2<(j.map V.b).length:=by refine J (bU _) ?_;exact Nat.div_lt_self (List.length_pos_iff.mpr Y) (by decide)
   refine D (sg e) λz F Q=>?_;refine D (wD (q:=λO=>True) F) λz M z2=>?_;subst z2;have vr:=f y QG;have a3:=f z M;have Oz:bM (j.map V.b) ((j.length:Int)/2)=some (.b z):=Q;have U:0<=(y*5+z+j.length)%251/\(y*5+z+j.length)%251<251:=⟨ku _ (by decide),m' _ (by decide)⟩;have el:bM (j.map V.b++[V.b ((y*5+z+j.length)%251)]) (j.length:Int)=some (.b ((y*5+z+j.length)%251)):=by refine J (ik _ _) ?_;simp
   refine o ⟨s,j++[(y*5+z+j.length)%251],j.length+1⟩ _ ⟨d,by simp,?_,by simp,by simp,by dsimp only;lia⟩ ⟨U.1,lW U.right (by decide)⟩ ?_
   . intro x QF;refine(cr.mp QF).elim (λq=>?_) λq=>?_;. exact f x q
     . exact J (bF.mp q) ⟨ku _ (by decide),Int.lt_trans (m' _ (by decide)) (by decide)⟩
   . have S:=El vr;have i:((j.length:Int)==((j.map V.b).length:Int))=true:=by exact J (bU _) (ji _)
     have P:(0:Int)<k:=cY.mpr t;have X:bM (j.map V.b++[V.b ((y*5+z+j.length).fmod 251)]) (j.length:Int)=some (.b ((y*5+z+j.length)%251)):=by exact J (b _) el
     have A:bM (j.map V.b) ((j.length:Int).fdiv 2)=some (.b z):=by exact J (W _) Oz
     have FQ:(j.map V.b).length<ak:=by exact J (bU _) hL
     have a:=λT=>AZ (q:=T) (a:=(y*5+z+j.length)%251) P r;have Z:(j++[(y*5+z+j.length)%251]).map V.b=j.map V.b++[V.b ((y*5+z+j.length).fmod 251)]:=by exact J (b _) fz
     clear o;induction s with|true=>obtain rfl:1=c:=d;refine aK ((aZ i) ((N E) ((N (pt S rfl)) ((N A) ((H (nW (n:=0) rfl FQ)) ((N X) ((N (a _)) ?_)))))));exact aJ (λl=>some (eM.b _,([]:ao),(V.d l::V.d [.c 0,.b (j.length+1)]::u:af))) Z.symm|false=>obtain rfl:2=c:=d;refine aK ((aZ i) ((N E) ((N (pt S rfl)) ((N A) ((H (nW (n:=1) rfl FQ)) ((N X) ((N (a _)) ?_)))))));exact aJ (λl=>some (eM.b _,([]:ao),(V.d []::V.d l::V.d [.c 1,.b (j.length+1)]::u:af))) Z.symm
 . refine D (sg (l:=j.map V.b) (v:=p) (by refine J (bU _) ?_;lia)) λz F Q=>?_;refine D (wD (q:=λO=>True) F) λz M z3=>?_;subst z3;have Qq:¬(p:Int)=(j.length:Int):=by lia
   refine o ⟨s,j,p+1⟩ z ⟨d,Y,f,by dsimp only;lia,by dsimp only;exact bX C,by dsimp only;lia⟩ (f z M) ?_;have i:((p:Int)==((j.map V.b).length:Int))=false:=by exact J (bU _) (dA.mpr Qq)
   have a:=λT=>AZ (q:=T) (a:=z) (cY.mpr t) r;clear o;induction s with|true=>obtain rfl:1=c:=d;exact aK ((as i) ((N Q) ((N (a _)) rfl)))|false=>obtain rfl:2=c:=d;exact aK ((as i) ((N Q) ((N (a _)) rfl)))
def bb(k:Nat):B:=[46,76]++dW k
def dq(k:Nat):B:=[46,76,111,118,101,114]++dW k
def an.h:an->List B|.a y=>y.a::y.h|.d q=>[q++[58]]|.g=>[[98,108,97,110,107]]|.f u=>[CK u]|.e z=>[vI,z.b,z.b,pX]|.c z=>[z.h]
def bj(z:List an):V:=.d (z.map λr=>ah r.h)
theorem eG{w n}(h:36<n){y}(g:bf c (m+1) q)(o:dr y)(k:Nat)z(d:z=(k:Int))(j:0<k/\k<=100):∃v u,v<k/\I w n 36 [.c c,.b z] (ap q y)=some (.b (v:Int),ap u y)/\bf c m u:=by exact J d (Iu w n h g o k j.1 j.2)
theorem G3 w n(h:31<n)z:I w n 31 [] z=some (.d [.a [116,48],.a [116,49],.a [97,48],.a [115,49],.a [120,53],.a [122,101,114,111]],z):=by refine J (dx h) ?_;kernel_rfl
theorem G2 w n(h:32<n)z:I w n 32 [] z=some (.d [.a [97,100,100],.a [115,117,98],.a [120,111,114],.a [115,108,116,117],.a [109,117,108]],z):=by refine J (dx h) ?_;kernel_rfl
theorem lA w n(h:33<n)z:I w n 33 [] z=some (.d [.a [98,101,113],.a [98,110,101],.a [98,108,116],.a [98,103,101],.a [98,108,116,117],.a [98,103,101,117]],z):=by refine J (dx h) ?_;kernel_rfl
theorem G5 w n(h:35<n)z:I w n 35 [] z=some (.e [(.a [115,119],.b 4),(.a [115,104],.b 2),(.a [115,98],.b 1)],z):=by refine J (dx h) ?_;kernel_rfl
theorem Pn{v:Nat}(h:v<6):∃r:cT,bM [.a [116,48],.a [116,49],.a [97,48],.a [115,49],.a [120,53],.a [122,101,114,111]] (v:Int)=some (V.a r.b):=by refine D (sg (l:=[V.a [116,48],.a [116,49],.a [97,48],.a [115,49],.a [120,53],.a [122,101,114,111]]) h) λx z e=>?_;exact J e ((bm ⟨.f,rfl⟩ (bm ⟨.d,rfl⟩ (bm ⟨.c,rfl⟩ (bm ⟨.g,rfl⟩ (bm ⟨.h,rfl⟩ (bm ⟨.e,rfl⟩ fT))))):∀x∈_,∃r:cT,some x=some (V.a r.b)) x z)
theorem E6{v:Nat}(h:v<6):∃k:hU,bM [.a [98,101,113],.a [98,110,101],.a [98,108,116],.a [98,103,101],.a [98,108,116,117],.a [98,103,101,117]] (v:Int)=some (V.a k.a):=by refine D (sg (l:=[V.a [98,101,113],.a [98,110,101],.a [98,108,116],.a [98,103,101],.a [98,108,116,117],.a [98,103,101,117]]) h) λx z e=>?_;exact J e ((bm ⟨.c,rfl⟩ (bm ⟨.e,rfl⟩ (bm ⟨.d,rfl⟩ (bm ⟨.f,rfl⟩ (bm ⟨.h,rfl⟩ (bm ⟨.g,rfl⟩ fT))))):∀x∈_,∃r:hU,some x=some (V.a r.a)) x z)
theorem Pm{v:Nat}(h:v<5):∃k:mW,bM [.a [97,100,100],.a [115,117,98],.a [120,111,114],.a [115,108,116,117],.a [109,117,108]] (v:Int)=some (V.a k.d):=by refine D (sg (l:=[V.a [97,100,100],.a [115,117,98],.a [120,111,114],.a [115,108,116,117],.a [109,117,108]]) h) λx z e=>?_;exact J e ((bm ⟨.a,rfl⟩ (bm ⟨.c,rfl⟩ (bm ⟨.f,rfl⟩ (bm ⟨.b,rfl⟩ (bm ⟨.e,rfl⟩ fT)))):∀x∈_,∃r:mW,some x=some (V.a r.d)) x z)
theorem hI(h:37<n)(j:bf c (m+1) q)(u:dr z):∃(r:cT)(y:hv),I w n 37 [.c c] (ap q z)=some (.a r.b,ap y z)/\bf c m y:=by refine bP (eG (w:=w) (n:=37) (by decide) j u 6 6 rfl (by decide)) λv y o e g=>?_;refine av (Pn o) λr d=>?_;refine(ax r y ⟨px (f:=B3) h rfl (by decide) rfl rfl j g u (v:=.a r.b) ?_ rfl,g⟩);exact aK ((H (G3 w 37 (by decide) _)) ((H e) ((N d) rfl)))
theorem P6:((List.range 1000).all λk=>Nat.ble (dW (k:Nat)).length 3)=true:=by decide+kernel
theorem oj{k:Nat}(h:k<1000):(dW k).length<=3:=ex (cs.mp P6 k (fJ.mpr h))
theorem t'(h:38<n)(o:bf c (m+1) q)(d:dr y)z(f:0<z/\z<=5):∃(k:Nat)(j:hv),(1<=k/\k<=z)/\I w n 38 [.c c,.b (z:Int)] (ap q y)=some (.a (bb k),ap j y)/\bf c m j:=by
 refine bP (eG (w:=w) (n:=38) (by decide) o d z z rfl (by lia)) λv j u e p=>?_;refine(ax (1+v) j ⟨⟨bw 1 v,J (kq 1 v) u⟩,px (f:=zW) h rfl (by decide) rfl rfl o p d (v:=.a (bb (1+v))) ?_ rfl,p⟩);have t:cw (1+v)=true:=ok (p:=1+v) (ac (cX (bC (bl u f.2)) 1) (by decide));have r:=oj (k:=1+v) (bl (ng (bl u f.right) 1) (by decide));have L:ak=1000000:=rfl;have g:2+(dW (1+v)).length<ak:=by
  have:dW (1+v)=dW (1+v:Nat):=by congr 1
  exact J this (au (cX r 2) (by decide))
 simp [zW,Bv,e,t,jB,g,bb]
theorem AU n z:dB n (bj z)=true:=yR (eT _) _ (kz (λr=>lq _) z)
theorem sn n y z:cP n y (bj z)=some (bj z):=if_pos (AU n z)
theorem Mx{v}(h:v<3):v=0\/v=1\/v=2:=by revert v;decide
theorem My{v}(h:v<4):v=0\/v=1\/v=2\/v=3:=by revert v;decide
theorem vm{v}(h:v<2):v=0\/v=1:=by revert v;decide
theorem Mz{v}(h:v<5):v=0\/v=1\/v=2\/v=3\/v=4:=by revert v;decide
@[elab_as_elim]theorem CD{v}{z:Nat->Prop}(h:v<2)(y:z 0)(q:z 1):z v:=by rcases vm h with e|e<;>(subst e;assumption)
@[elab_as_elim]theorem nV{v}{z:Nat->Prop}(h:v<3)(y:z 0)(q:z 1)(j:z 2):z v:=by rcases Mx h with e|e|e<;>(subst e;assumption)
@[elab_as_elim]theorem rx{v}{z:Nat->Prop}(h:v<4)(y:z 0)(q:z 1)(j:z 2)(u:z 3):z v:=by rcases My h with e|e|e|e<;>(subst e;assumption)
@[elab_as_elim]theorem DZ{v}{z:Nat->Prop}(h:v<5)(y:z 0)(q:z 1)(j:z 2)(u:z 3)(g:z 4):z v:=by rcases Mz h with e|e|e|e|e<;>(subst e;assumption)
def hu(z:List an):Prop:=∀r∈z,bA r=true/\dk r=none/\∀g,r≠.d g
theorem dw{z:Prop}(e:r=.d g)(h:mq r=false):z:=am (h.symm.trans (aJ mq e))
theorem hu.m:hu []:=λO h=>absurd h fY
theorem hu.l(y:bA r=true)(q:dk r=none)(j:∀g,r≠.d g)(h:hu u):hu (r::u):=λx z=>by
 refine dF z ?_ λz=>?_;. exact⟨y,q,j⟩
 . exact h x z
theorem Aj(h:39<n)(x:bf c (m+3) q)(b:dr y):∃j d,I w n 39 [.c c] (ap q y)=some (bj j,ap d y)/\bf c m d/\hu j/\j.length<=2:=by
 refine bg (hI (w:=w) (n:=39) (by decide) x b) λr J f Y=>?_;refine bP (eG (w:=w) (n:=39) (by decide) Y b 4 4 rfl (by decide)) λv a Q o i=>?_;have z:∀(j:List an)(d:hv),bf c m d->bu (aI aj (I w 39) w tH.c (cu tH [.c c]) (ap q y)) (bj j) (ap d y)->hu j->j.length<=2->∃(j:List an)(d:hv),I w n 39 [.c c] (ap q y)=some (bj j,ap d y)/\bf c m d/\hu j/\j.length<=2:=λj d Z e p l=>(ax j d ⟨px (f:=tH) h rfl (by decide) rfl rfl x Z b e (sn _ _ _),Z,p,l⟩);revert o;refine rx Q ?_ ?_ ?_ ?_
 . intro o;refine bP (eG (w:=w) (n:=39) (by decide) i b 3 3 rfl (by decide)) λu t s g k=>?_;revert g;refine nV s ?_ ?_ ?_;. intro g;exact z [.a (.d r .e .g)] t k (aK ((H f) ((H o) ((H g) rfl)))) (.l rfl rfl (λO e=>dw e rfl) .m) (by simp)
   . intro g;exact z [.a (.d r .e .c)] t k (aK ((H f) ((H o) ((H g) rfl)))) (.l rfl rfl (λO e=>dw e rfl) .m) (by simp)
   . intro g;exact z [.a (.d r .e .e)] t k (aK ((H f) ((H o) ((H g) rfl)))) (.l rfl rfl (λO e=>dw e rfl) .m) (by simp)
 . intro o;refine bP (eG (w:=w) (n:=39) (by decide) i b 2 2 rfl (by decide)) λu t s g k=>?_;revert g;refine CD s ?_ ?_;. intro g;exact z [.a (.i r .f)] t k (aK ((H f) ((H o) ((H g) rfl)))) (.l rfl rfl (λO e=>dw e rfl) .m) (by simp)
   . intro g;exact z [.a (.i r .i)] t k (aK ((H f) ((H o) ((H g) rfl)))) (.l rfl rfl (λO e=>dw e rfl) .m) (by simp)
 . intro o;exact z [.a (.i r .f),.a (.d r r .g)] a (i.a (bw m 1)) (aK ((H f) ((H o) rfl))) (.l rfl rfl (λO e=>dw e rfl) (.l rfl rfl (λO e=>dw e rfl) .m)) (by simp)
 . intro o;exact z [.a (.i r .f),.a (.d r r .e)] a (i.a (bw m 1)) (aK ((H f) ((H o) rfl))) (.l rfl rfl (λO e=>dw e rfl) (.l rfl rfl (λO e=>dw e rfl) .m)) (by simp)
@[simp]theorem ON{q:Type}(x y z u:q)l:bM (x::y::z::u::l) 3=some u:=ik (x::y::z::u::l) 3
@[simp]theorem Ve{q:Type}(x y z u v:q)l:bM (x::y::z::u::v::l) 4=some v:=ik (x::y::z::u::v::l) 4
@[simp]theorem Vf{q:Type}(x y z u v t:q)l:bM (x::y::z::u::v::t::l) 5=some t:=ik (x::y::z::u::v::t::l) 5
theorem Rt:cT.e.b=[122,101,114,111]:=rfl
theorem ob{z}{x:V}:aO (z++[x]) (.c z.length)=x:=by refine(?_:(z++[x]).getD z.length .i=x);refine J hY ?_;simp
theorem xd{z:af}{x y:V}:(z++[x]).set z.length y=z++[y]:=by refine(List.set_append_right _ _ (aH _)).trans ?_;simp
theorem Ak{z:af}{x}:(z++[x])[z.length]?=some x:=by simp
theorem yB{n}{a b}(y:aO z (.c n)=.d a)(h:a.length+b.length<ak):cZ z .Add (.c n) (.d b)=some (.d (a++b)):=by refine(?_:yK (aO z (.c n)) (.d b)=_);refine J y ?_;exact(if_pos h)
theorem vp{z:af}{y}:ek (z++[.d y]) .e (.c z.length)=true:=by refine(?_:pp (aO _ _)=true);exact J ob rfl
theorem DK{z:af}{y}:ek (z++[.d y]) .u (.c z.length)=true:=by refine(?_:pp (aO _ _)=true);rw [ob];rfl
theorem Nf{z:af}{y}:ek (z++[.d y]) .q (.c z.length)=true:=by refine(?_:pp (aO _ _)=true);exact J ob rfl
theorem tm{z:af}{y}{v}(h:y.length<ak):cN (z++[.d y]) .e (.c z.length) [v]=some (.j,z++[.d (y++[v])]):=by refine(nW Ak h).trans (J xd ?_);rfl
theorem Gt{z:af}{y q}(h:y.length+q.length<ak):cN (z++[.d y]) .q (.c z.length) [.d q]=some (.j,z++[.d (y++q)]):=by refine(NP Ak h).trans (J xd ?_);rfl
theorem NR{z}{n}{k:Int}{v}{y}(h:z[n]?=some (.d y))(q:0<=k/\k<ak/\y.length<ak):cN z .u (.c n) [.b k,v]=some (.j,z.set n (.d (y.take k.toNat++v::y.drop k.toNat))):=by refine(?_:(z[n]?).bind _=_);exact J h (if_pos q)
theorem Bh{y:af}{z}{v}{k}(h:k<ak/\z.length<ak):cN (y++[.d z]) .u (.c y.length) [.b (k:Int),v]=some (.j,y++[.d (z.take k++v::z.drop k)]):=by refine(NR Ak ⟨fw k,cY.mpr h.1,h.2⟩).trans (J xd ?_);rfl
theorem RG(r:an):∃a l,r.h=a::l:=by induction r<;>exact(ax _ _ rfl)
theorem Nt{z}{r:an}:bp z .NotEq (ah r.h) (.d [])=some true:=by refine go (RG r) λa l e=>?_;refine J e ?_;exact J (Cp (z:=z) (a:=a) (l:=l)) rfl
noncomputable def A3:List an->V|[]=>.d []|r::_=>ah r.h
noncomputable def me(b:Bool):B:=if b then [115,112]else [115,49]
noncomputable def nF(b:Bool):eS:=if b then .c else .e
theorem QY(j:af)o b(d z:cT)u(s:iA)l c y(f:y.length<=1)q:bu (aI aj (I w 40) w (gE.drop 5) [some o,some (.a (me b)),some (.a d.b),some (.a z.b),some u,some (.g [.a s.b,.a l.b]),some (.a c),some (A3 y),some (.c j.length)] (j++[.d [ah q.h]])) (bj (q::y++[.a (.f l z (nF b))])) (j++[.d (ah q.h::y.map λr=>ah r.h)]):=by
 have L:ak=1000000:=rfl;have g:bj (q::y++[.a (.f l z (nF b))])=.d (ah q.h::(y.map λr=>ah r.h)++[.d [.a l.b,.a z.b,.a (nF b).a]]):=by unfold bj;simp;rfl
 refine J g ?_;clear g;induction y using List.casesOn with|nil=>simp only [gE,List.drop];induction b<;>exact aK ((N (yB ob (ex rfl))) rfl)|cons r y=>
obtain rfl:y=[]:=by induction y using List.casesOn with|nil=>rfl|cons _ _=>simp at f
simp only [gE,List.drop];induction b<;>exact aK ((eJ Nt) ((ft vp) ((H (tm (ex rfl))) ((N (yB ob (ex rfl))) rfl))))
theorem KP(h:40<n)(G:bf c (m+7) q)(u:dr z):∃x a0,I w n 40 [.c c] (ap q z)=some (bj x,ap a0 z)/\bf c m a0/\hu x/\x.length<=3:=by
 have L:ak=1000000:=rfl;refine bP (eG (w:=w) (n:=40) (by decide) G u 2 2 rfl (by decide)) λX q1 A e1 w1=>?_;refine bg (hI (w:=w) (n:=40) (by decide) w1 u) λj q2 e2 w2=>?_;refine bg (hI (w:=w) (n:=40) (by decide) w2 u) λy q3 e3 w3=>?_;refine bP (eG (w:=w) (n:=40) (by decide) w3 u 5 5 rfl (by decide)) λa q4 h4 e4 w4=>?_;refine bP (eG (w:=w) (n:=40) (by decide) w4 u 4 4 rfl (by decide)) λv5 J h5 e5 w5=>?_;refine bP (eG (w:=w) (n:=40) (by decide) w5 u 2 2 rfl (by decide)) λv6 k h6 U w6=>?_;refine bP (eG (w:=w) (n:=40) (by decide) w6 u 3 3 rfl (by decide)) λW Z h7 D C=>?_;obtain⟨b,i⟩:∃b,bM [.a [115,112],.a [115,49]] X=some (V.a (me b)):=by
  refine(vm A).elim (λo=>?_) λo=>?_;. subst o;exact⟨true,rfl⟩
  . subst o;exact⟨false,rfl⟩
 obtain⟨s,l,ev⟩:∃(s:iA)(l:oy),bM [.g [.a [115,119],.a [108,119]],.g [.a [115,119],.a [108,119]],.g [.a [115,98],.a [108,119]],.g [.a [115,119],.a [108,98]]] v5=some (V.g [.a s.b,.a l.b]):=by
  refine rx h5 ?_ ?_ ?_ ?_;. exact(ax .c .a rfl)
  . exact(ax .c .a rfl)
  . exact(ax .d .a rfl)
  . exact(ax .c .c rfl)
 obtain⟨f,F⟩:∃f:eS,∀M P g p t,az aj (I w 40) w (ab gE 2) [some (.c c),some (.a (me b)),P,g,p,t,none,none,M] (ap J z)=some (.a,[some (.c c),some (.a (me b)),P,g,p,t,some (.a f.a),none,M],ap k z):=by
  refine(vm h6).elim (λo=>?_) λo=>?_;. subst o;refine⟨nF b,λO O O O O=>?_⟩;clear i;induction b<;>exact aA ((H U) rfl)
  . subst o;refine⟨if b then .g else .b,λO O O O O=>?_⟩;clear i;induction b<;>exact aA ((H U) rfl)
 obtain⟨d,T,Y,PQ⟩:∃d:List an,d.length<=1/\hu d/\∀R g t K B,az aj (I w 40) w (ab gE 3) [some (.c c),R,some (.a j.b),g,some (.b a),t,K,none,B] (ap k z)=some (.a,[some (.c c),R,some (.a j.b),g,some (.b a),t,K,some (A3 d),B],ap k z):=by
  refine DZ h4 ?_ ?_ ?_ ?_ ?_;. exact⟨[],by simp,by simp [hu],λO O O O O=>aA rfl⟩
  . exact⟨[.g],by simp,.l rfl rfl (λO e=>dw e rfl) .m,λO O O O O=>aA rfl⟩
  . exact⟨[.a (.d j j .c)],by simp,.l rfl rfl (λO e=>dw e rfl) .m,λO O O O O=>aA rfl⟩
  . exact⟨[.a (.c .d .c .f)],by simp,.l rfl rfl (λO e=>dw e rfl) .m,λO O O O O=>aA rfl⟩
  . exact⟨[.f false],by simp,.l rfl rfl (λO e=>dw e rfl) .m,λO O O O O=>aA rfl⟩
 obtain⟨v,Qf⟩:∃v:eS,∀g p E,az aj (I w 40) w (ab gE 4) [some (.c c),some (.a (me b)),some (.a j.b),g,p,some (.g [.a s.b,.a l.b]),some (.a f.a),E,none] (ap k z)=some (.a,[some (.c c),some (.a (me b)),some (.a j.b),g,p,some (.g [.a s.b,.a l.b]),some (.a f.a),E,some (.c (ap Z z).length)],ap Z z++[.d [ah (an.h (.a (.c s j v)))]]):=by
  by_cases S:W=0;. clear h7;subst S;refine⟨f,λO O O=>?_⟩;exact aA ((H D) rfl)
  . refine⟨nF b,λO O O=>?_⟩;have Q:0<W:=sA S;clear F i;induction b<;>exact aA ((H D) ((aZ (em (cY.mpr Q))) rfl))
 refine(ax (an.a (.c s j v)::d++[.a (.f l y (nF b))]) Z ⟨t_ (f:=B6) h rfl (by decide) rfl rfl G C u (v:=bj (an.a (.c s j v)::d++[.a (.f l y (nF b))])) (y:=[.d (ah (an.h (.a (.c s j v)))::d.map λr=>ah r.h)]) ?_ (sn _ _ _),C,?_,by simp;exact T⟩);. refine aS (s:=ab gE 0) (j:=gE.drop 1) (z:=[some (.c c),some (.a (me b)),some (.a j.b),some (.a y.b),none,none,none,none,none]) (y:=ap q3 z) (aA ((H e1) ((N i) ((H e2) ((H e3) rfl))))) (aS (s:=ab gE 1) (j:=gE.drop 2) (z:=[some (.c c),some (.a (me b)),some (.a j.b),some (.a y.b),some (.b a),some (.g [.a s.b,.a l.b]),none,none,none]) (y:=ap J z) (aA ((H e4) ((H e5) ((N ev) rfl)))) ?_);refine aS (s:=ab gE 2) (j:=gE.drop 3) (F _ _ _ _ _) (aS (s:=ab gE 3) (j:=gE.drop 4) (PQ _ _ _ _ _) ?_);exact aS (s:=ab gE 4) (j:=gE.drop 5) (Qf _ _ _) (QY _ _ _ _ _ _ _ _ _ _ T _)
 . exact bm ⟨rfl,rfl,λO e=>dw e rfl⟩ (RO Y (bm ⟨rfl,rfl,λO e=>dw e rfl⟩ fT))
theorem Ob:((List.range 200).all λk=>dn (dq k))=true:=by decide+kernel
theorem Oa:((List.range 7).all λk=>dn (bb k))=true:=by decide+kernel
theorem RS:((List.range 6).all λk=>k==0||jX.contains (bb k))=true:=by decide+kernel
theorem N'(h:k<200):dn (dq k)=true:=cs.mp Ob k (fJ.mpr h)
theorem of(h:k<7):dn (bb k)=true:=cs.mp Oa k (fJ.mpr h)
theorem Kp(h:1<=k/\k<=5):jX.contains (bb k)=true:=by
 have:=cs.mp RS k (fJ.mpr (au h.right (by decide)));rw [nq]at this;refine this.elim (λe=>?_) λe=>?_;. have:=ez.mp e;lia
 . exact e
def fB(z:List an):List B:=z.filterMap kI
structure mj(q z:Nat)(y:List an):Prop where
c:y.length<=5
d:∀r∈y,bA r=true
b:∀r∈y,∀g,dk r=some g->(∃k,1<=k/\k<=q/\g=bb k)\/(g=dq z/\dq z∈fB y)a:fB y=[]\/fB y=[dq z]
theorem En(h:hu y):fB y=[]:=by refine J (propext List.filterMap_eq_nil_iff) ?_;intro r z;have:=(h r z).2.2;clear z;induction r with|d g=>exact absurd rfl (this g)|_=>rfl
theorem hO y z(h:hu j)(u:j.length<=5):mj y z j:=⟨u,λr q=>(h r q).1,λr q g w=>(C (((h r q).2.1).symm.trans w)),.inl (En h)⟩
section
variable{c:Nat}
abbrev iY(c j y:Nat)(k:hU)(a b:cT)(g v:Nat)(x:Option V):ao:=[some (.c c),some (.b (j:Int)),some (.b (y:Int)),some (.a k.a),some (.a (dq y)),some (.a a.b),some (.a b.b),some (.a (bb g)),some (.b (v:Int)),x]
section
variable{j y v:Nat}{z:af}
theorem xx(u:I w 41 38 [.c c,.b (j:Int)] z=some (.a (bb o),q))(d:((v:Int)==1)=false):az aj (I w 41) w (ab hh 3) (iY c j y k a b g v x) z=some (.a,iY c j y k a b g v (some (.c q.length)),q++[.d [ah (an.h (.a (.b k a b (dq y)))),ah (an.h (.a (.e (bb o))))]]):=aA ((aZ (aJ (!.) d)) ((H u) rfl))
theorem Ol(u:I w 41 38 [.c c,.b (j:Int)] z=some (.a (bb o),q))(d:((v:Int)==1)=true):az aj (I w 41) w (ab hh 3) (iY c j y k a b g v x) z=some (.a,iY c j y k a b g v (some (.c q.length)),q++[.d [ah (an.h (.a (.b k a b (bb g)))),ah (an.h (.a (.e (bb o))))]]):=aA ((as (aJ (!.) d)) ((H u) rfl))
theorem xy(q:((v:Int)==2)=false):az aj (I w 41) w (ab hh 4) (iY c j y k a b g v x) z=some (.a,iY c j y k a b g v x,z):=aA ((as q) rfl)
theorem Om(u:((v:Int)==2)=true)(h:q.length<ak):az aj (I w 41) w (ab hh 4) (iY c j y k a b g v (some (.c z.length))) (z++[.d q])=some (.a,iY c j y k a b g v (some (.c z.length)),z++[.d (q++[ah (an.h (.a (.d .c .c .d)))])]):=aA ((aZ u) ((ft vp) ((H (tm h)) rfl)))
theorem xz(q:((v:Int)==3)=false):az aj (I w 41) w (ab hh 5) (iY c j y k a b g v x) z=some (.a,iY c j y k a b g v x,z):=aA ((as q) rfl)
theorem On(u:((v:Int)==3)=true)(h:q.length<ak):az aj (I w 41) w (ab hh 5) (iY c j y k a b g v (some (.c z.length))) (z++[.d q])=some (.a,iY c j y k a b g v (some (.c z.length)),z++[.d (q.take 1++ah (an.h (.f true))::q.drop 1)]):=aA ((aZ u) ((ft DK) ((H (Bh (k:=1) ⟨by decide,h⟩)) rfl)))
theorem uX(u:(dq y).length+1<ak)(h:q.length+1<ak):bu (aI aj (I w 41) w (hh.drop 6) (iY c j y k a b g v (some (.c z.length))) (z++[.d q])) (.d (q++[.d [.a (dq y++[58])]])) (z++[.d q]):=aK ((N (jB u)) ((N (yB ob h)) rfl))
end
theorem KL(h:41<n)(a1:bf c (m+6) q)(s:dr o){j y:Nat}(G:0<j/\j<=5)(a0:y<200):∃f Q,I w n 41 [.c c,.b (j:Int),.b (y:Int)] (ap q o)=some (bj f,ap Q o)/\bf c m Q/\mj j y f:=by
 have L:ak=1000000:=rfl;refine bP (eG (w:=w) (n:=41) (by decide) a1 s 6 6 rfl (by decide)) λv1 T R V K=>?_;refine bg (hI (w:=w) (n:=41) (by decide) K s) λa q2 B E=>?_;refine bg (hI (w:=w) (n:=41) (by decide) E s) λb q3 N S=>?_;refine bP (t' (w:=w) (n:=41) (by decide) S s j G) λg X W A w4=>?_;refine bP (eG (w:=w) (n:=41) (by decide) w4 s 4 4 rfl (by decide)) λD F h5 e5 w5=>?_;refine bP (t' (w:=w) (n:=41) (by decide) w5 s j G) λp Y t r M=>?_;refine av (E6 R) λk ek=>?_;have hs:cw y=true:=ok (p:=y) (ac (bC a0) (by decide));have hl:=oj (k:=y) (bl a0 (by decide));have Qb:6+(dW y).length<ak:=by lia
 have Z:(dq y).length+1<ak:=by refine J dN ?_;simp;lia
 have ea:∀z,cZ z .Add (.a (dq y)) (.a [58])=some (.a (dq y++[58])):=λz=>jB Z;have eA:=lA w 41 (by decide);have Qn:46::76::111::118::101::114::dW y=dq y:=rfl;have og:=of (k:=g) (au W.right (au G.right (by decide)));have U:=of (k:=p) (au t.right (au G.right (by decide)));have x:=N' a0;have l:∀(f:List an)(d:af),bu (aI aj (I w 41) w nP.c (cu nP [.c c,.b j,.b y]) (ap q o)) (bj f) (ap Y o++d)->mj j y f->∃(f:List an)(Q:hv),I w n 41 [.c c,.b j,.b y] (ap q o)=some (bj f,ap Q o)/\bf c m Q/\mj j y f:=λf d e i=>(ax f Y ⟨t_ (f:=nP) h rfl (by decide) rfl rfl a1 M s e (sn _ _ _),M,i⟩);have u:∀(f:List an)(d:af),bu (aI aj (I w 41) w (hh.drop 3) [some (.c c),some (.b j),some (.b (y:Int)),some (.a k.a),some (.a (dq y)),some (.a a.b),some (.a b.b),some (.a (bb g)),some (.b (D:Int)),none] (ap F o)) (bj f) (ap Y o++d)->bu (aI aj (I w 41) w nP.c (cu nP [.c c,.b (j:Int),.b (y:Int)]) (ap q o)) (bj f) (ap Y o++d):=λf d e=>by refine aS (s:=ab hh 0) (j:=hh.drop 1) (z:=[some (.c c),some (.b (j:Int)),some (.b (y:Int)),some (.a k.a),some (.a (dq y)),none,none,none,none,none]) (y:=ap T o) (by simp [hh,nP,V,eA,ek,hs,Qb,Qn]) (aS (s:=ab hh 1) (j:=hh.drop 2) (z:=[some (.c c),some (.b (j:Int)),some (.b (y:Int)),some (.a k.a),some (.a (dq y)),some (.a a.b),some (.a b.b),some (.a (bb g)),none,none]) (y:=ap X o) (aA ((H B) ((H N) ((H A) rfl)))) ?_);exact aS (s:=ab hh 2) (j:=hh.drop 3) (z:=[some (.c c),some (.b (j:Int)),some (.b (y:Int)),some (.a k.a),some (.a (dq y)),some (.a a.b),some (.a b.b),some (.a (bb g)),some (.b (D:Int)),none]) (y:=ap F o) (aA ((H e5) rfl)) e
 have i1:∀P,(k:hU)->bA (.a (.b k a b P))=dn P:=λO O=>rfl;revert r u;refine rx h5 ?_ ?_ ?_ ?_
 . intro r u;refine l [.a (.b k a b (dq y)),.a (.e (bb p)),.d (dq y)] [.d [ah (an.h (.a (.b k a b (dq y)))),ah (an.h (.a (.e (bb p))))]] (u _ _ ?_) ⟨by simp,bm x (bm U (bm x fT)),?_,.inr rfl⟩;. refine aS (xx r rfl) (aS (xy rfl) ?_);exact aS (xz rfl) (uX Z (ex rfl))
   . exact bm (λO e=>by obtain rfl:=ag e;exact .inr ⟨rfl,bF.mpr rfl⟩) (bm (λO e=>by cases e;exact .inl ⟨p,t.1,t.2,rfl⟩) (bm (λO e=>C e) fT))
 . intro r u;refine l [.a (.b k a b (bb g)),.a (.e (bb p)),.d (dq y)] [.d [ah (an.h (.a (.b k a b (bb g)))),ah (an.h (.a (.e (bb p))))]] (u _ _ ?_) ⟨by simp,bm og (bm U (bm x fT)),?_,.inr rfl⟩;. refine aS (Ol r rfl) (aS (xy rfl) ?_);exact aS (xz rfl) (uX Z (ex rfl))
   . exact bm (λO e=>by obtain rfl:=ag e;exact .inl ⟨g,W.1,W.2,rfl⟩) (bm (λO e=>by cases e;exact .inl ⟨p,t.1,t.2,rfl⟩) (bm (λO e=>C e) fT))
 . intro r u;refine l [.a (.b k a b (dq y)),.a (.e (bb p)),.a (.d .c .c .d),.d (dq y)] [.d [ah (an.h (.a (.b k a b (dq y)))),ah (an.h (.a (.e (bb p)))),ah (an.h (.a (.d .c .c .d)))]] (u _ _ ?_) ⟨by simp,bm x (bm U (bm rfl (bm x fT))),?_,.inr rfl⟩;. refine aS (xx r rfl) (aS (Om rfl (ex rfl)) ?_);exact aS (xz rfl) (uX Z (ex rfl))
   . exact bm (λO e=>by obtain rfl:=ag e;exact .inr ⟨rfl,bF.mpr rfl⟩) (bm (λO e=>by cases e;exact .inl ⟨p,t.1,t.2,rfl⟩) (bm (λO e=>C e) (bm (λO e=>C e) fT)))
 . intro r u;refine l [.a (.b k a b (dq y)),.f true,.a (.e (bb p)),.d (dq y)] [.d [ah (an.h (.a (.b k a b (dq y)))),ah (an.h (.f true)),ah (an.h (.a (.e (bb p))))]] (u _ _ ?_) ⟨by simp,bm x (bm rfl (bm U (bm x fT))),?_,.inr rfl⟩;. refine aS (xx r rfl) (aS (xy rfl) ?_);exact aS (On rfl (ex rfl)) (uX Z (ex rfl))
   . exact bm (λO e=>by obtain rfl:=ag e;exact .inr ⟨rfl,bF.mpr rfl⟩) (bm (λO e=>C e) (bm (λO e=>by cases e;exact .inl ⟨p,t.1,t.2,rfl⟩) (bm (λO e=>C e) fT)))
end
theorem Mv{v}(h:v<12):v=0\/v=1\/v=2\/v=3\/v=4\/v=5\/v=6\/v=7\/v=8\/v=9\/v=10\/v=11:=by revert v;decide
theorem MA{v}(h:v<6):v=0\/v=1\/v=2\/v=3\/v=4\/v=5:=by revert v;decide
@[elab_as_elim]theorem MB{v}{z:Nat->Prop}(h:v<6)(y:z 0)(q:z 1)(j:z 2)(u:z 3)(g:z 4)(w:z 5):z v:=by rcases MA h with e|e|e|e|e|e<;>(subst e;assumption)
@[elab_as_elim]theorem Mw{v}{z:Nat->Prop}(h:v<12)(y:z 0)(q:z 1)(j:z 2)(u:z 3)(g:z 4)(w:z 5)(o:z 6)(d:z 7)(c:z 8)(f:z 9)(m:z 10)(p:z 11):z v:=by rcases Mv h with e|e|e|e|e|e|e|e|e|e|e|e<;>(subst e;assumption)
theorem Go{b}(h:a.length+b.length<ak):cZ z .Add (bj a) (.d b)=some (.d ((a.map λr=>ah r.h)++b)):=by exact(AX (by simpa using h))
theorem yD{a}(h:a.length+b.length<ak):cZ z .Add (.d a) (bj b)=some (.d (a++(b.map λr=>ah r.h))):=by exact(AX (by simpa using h))
def it(w n c m:Nat)(q:hv)(j:af)(y z:Nat):Prop:=∃(u:List an)(g:hv),I w n 42 [.c c,.b (y:Int),.b (z:Int)] (ap q j)=some (bj u,ap g j)/\bf c m g/\mj y z u
abbrev cg(c y z v:Nat):ao:=[some (.c c),some (.b (y:Int)),some (.b (z:Int)),some (.b (v:Int)),none,none]
theorem K6{w c y z v}(h:¬v<3):az aj (I w 42) w (ab aW 1) (cg c y z v) q=some (.a,cg c y z v,q):=by have j:¬(v:Int)<3:=iH (cY.mpr (g' h));exact aA (as (by simp [aW,cg,j]) rfl)
theorem K7{w c y z v}(h:¬v=3):az aj (I w 42) w (ab aW 2) (cg c y z v) q=some (.a,cg c y z v,q):=by
 have j:¬(v:Int)=3:=by lia
 exact aA (as (by simp [aW,cg,j]) rfl)
theorem K8{w c y z v}(h:¬v=4):az aj (I w 42) w (ab aW 3) (cg c y z v) q=some (.a,cg c y z v,q):=by
 have j:¬(v:Int)=4:=by lia
 exact aA (as (by simp [aW,cg,j]) rfl)
theorem K9{w c y z v}(h:¬v=5):az aj (I w 42) w (ab aW 4) (cg c y z v) q=some (.a,cg c y z v,q):=by
 have j:¬(v:Int)=5:=by lia
 exact aA (as (by simp [aW,cg,j]) rfl)
theorem K'{w c y z v}(h:¬v=6):az aj (I w 42) w (ab aW 5) (cg c y z v) q=some (.a,cg c y z v,q):=by
 have j:¬(v:Int)=6:=by lia
 exact aA (as (by simp [aW,cg,j]) rfl)
theorem K_{w c y z v}(h:¬v=7):az aj (I w 42) w (ab aW 6) (cg c y z v) q=some (.a,cg c y z v,q):=by
 have j:¬(v:Int)=7:=by lia
 exact aA (as (by simp [aW,cg,j]) rfl)
theorem La{w c y z v}(h:¬v=8):az aj (I w 42) w (ab aW 7) (cg c y z v) q=some (.a,cg c y z v,q):=by
 have j:¬(v:Int)=8:=by lia
 exact aA (as (by simp [aW,cg,j]) rfl)
theorem Lb{w c y z v}(h:¬v=9):az aj (I w 42) w (ab aW 8) (cg c y z v) q=some (.a,cg c y z v,q):=by
 have j:¬(v:Int)=9:=by lia
 exact aA (as (by simp [aW,cg,j]) rfl)
theorem L3{w c y z v}(h:¬v=10):az aj (I w 42) w (ab aW 9) (cg c y z v) q=some (.a,cg c y z v,q):=by
 have j:¬(v:Int)=10:=by lia
 exact aA (as (by simp [aW,cg,j]) rfl)
section
variable{z:Nat}
theorem Di(h:2<v)(e:bu (aI aj (I w 42) w (aW.drop 2) (cg c y z v) j) r q):bu (aI aj (I w 42) w (aW.drop 1) (cg c y z v) j) r q:=aS (s:=ab aW 1) (K6 (nh h)) e
theorem Dj(h:3<v)(e:bu (aI aj (I w 42) w (aW.drop 3) (cg c y z v) j) r q):bu (aI aj (I w 42) w (aW.drop 1) (cg c y z v) j) r q:=Di (jK h) (aS (s:=ab aW 2) (K7 (iG h)) e)
theorem Dk(h:4<v)(e:bu (aI aj (I w 42) w (aW.drop 4) (cg c y z v) j) r q):bu (aI aj (I w 42) w (aW.drop 1) (cg c y z v) j) r q:=Dj (jK h) (aS (s:=ab aW 3) (K8 (iG h)) e)
theorem Dl(h:5<v)(e:bu (aI aj (I w 42) w (aW.drop 5) (cg c y z v) j) r q):bu (aI aj (I w 42) w (aW.drop 1) (cg c y z v) j) r q:=Dk (jK h) (aS (s:=ab aW 4) (K9 (iG h)) e)
theorem Dm(h:6<v)(e:bu (aI aj (I w 42) w (aW.drop 6) (cg c y z v) j) r q):bu (aI aj (I w 42) w (aW.drop 1) (cg c y z v) j) r q:=Dl (jK h) (aS (s:=ab aW 5) (K' (iG h)) e)
theorem Dn(h:7<v)(e:bu (aI aj (I w 42) w (aW.drop 7) (cg c y z v) j) r q):bu (aI aj (I w 42) w (aW.drop 1) (cg c y z v) j) r q:=Dm (jK h) (aS (s:=ab aW 6) (K_ (iG h)) e)
theorem Do(h:8<v)(e:bu (aI aj (I w 42) w (aW.drop 8) (cg c y z v) j) r q):bu (aI aj (I w 42) w (aW.drop 1) (cg c y z v) j) r q:=Dn (jK h) (aS (s:=ab aW 7) (La (iG h)) e)
theorem Dp(h:9<v)(e:bu (aI aj (I w 42) w (aW.drop 9) (cg c y z v) j) r q):bu (aI aj (I w 42) w (aW.drop 1) (cg c y z v) j) r q:=Do (jK h) (aS (s:=ab aW 8) (Lb (iG h)) e)
theorem pq(h:10<v)(e:bu (aI aj (I w 42) w (aW.drop 10) (cg c y z v) j) r q):bu (aI aj (I w 42) w (aW.drop 1) (cg c y z v) j) r q:=Dp (jK h) (aS (s:=ab aW 9) (L3 (iG h)) e)
end
theorem gG{w n c m}{y}{j z v:Nat}(h:42<n)(f:bf c (m+8) q)(p:dr y)(t:I w 42 36 [.c c,.b 12] (ap q y)=some (.b (v:Int),ap o y))u g(d:bf c m g)(e:bu (aI aj (I w 42) w (aW.drop 1) (cg c j z v) (ap o y)) (bj u) (ap g y))(i:mj j z u):it w n c m q y j z:=(ax u g ⟨px (f:=B2) h rfl (by decide) rfl rfl f d p (aS (s:=ab aW 0) (j:=aW.drop 1) (z:=cg c j z v) (y:=ap o y) (aA ((H t) rfl)) e) (sn _ _ _),d,i⟩)
theorem JC{w n c m}{j}{y z}(h:42<n)(g:bf c (m+8) q)(u:dr j)(b:0<y/\y<=5)(e:z<200)(o:bf c (m+7) d)(f:I w 42 36 [.c c,.b 12] (ap q j)=some (.b ((0:Nat):Int),ap d j)):it w n c m q j y z:=by have L:ak=1000000:=rfl;refine gN (Aj (w:=w) (n:=42) (by decide) (bf.a (k:=m+3) o (cX (by decide) m)) u) λt r v k p l=>?_;exact gG h g u f t r k (fe (s:=ab aW 1) (y:=aW.drop 2) (aK ((H v) rfl))) (hO y z p (ac l (by decide)))
theorem JD{w n c m}{j}{y z}(h:42<n)(g:bf c (m+8) q)(u:dr j)(b:0<y/\y<=5)(e:z<200)(o:bf c (m+7) d)(f:I w 42 36 [.c c,.b 12] (ap q j)=some (.b ((1:Nat):Int),ap d j)):it w n c m q j y z:=by have L:ak=1000000:=rfl;refine gN (Aj (w:=w) (n:=42) (by decide) (bf.a (k:=m+3) o (cX (by decide) m)) u) λt r v k p l=>?_;exact gG h g u f t r k (fe (s:=ab aW 1) (y:=aW.drop 2) (aK ((H v) rfl))) (hO y z p (ac l (by decide)))
theorem KA{w n c m}{j}{y z}(h:42<n)(t:bf c (m+8) q)(f:dr j)(a:0<y/\y<=5)(Q:z<200)(v:bf c (m+7) k)(b:I w 42 36 [.c c,.b 12] (ap q j)=some (.b ((2:Nat):Int),ap k j)):it w n c m q j y z:=by
 have L:ak=1000000:=rfl;refine gN (Aj (w:=w) (n:=42) (by decide) (bf.a (k:=m+3) v (cX (by decide) m)) f) λo e i s p l=>?_;refine gG h t f b (o++[.a (.c .c .f .h)]++o) e s (fe (s:=ab aW 1) (y:=aW.drop 2) (by simp [aW,cg,i,(λd=>Go (z:=d) (a:=o) (b:=[V.d [.a [115,119],.a [116,48],.a [56,40,115,112,41]]]) (by simp;exact au (eA l) (by decide))),(λd=>yD (z:=d) (a:=(o.map λr=>ah r.h)++[V.d [.a [115,119],.a [116,48],.a [56,40,115,112,41]]]) (b:=o) (by simp;exact au (dV (eA l) l) (by decide)))];simp [bj];rfl)) (hO y z (λr u=>?_) (by simp;exact au (dV l l) (by decide)));rcases cr.mp u with u|u
 . refine(cr.mp u).elim (λu=>?_) λu=>?_;. exact p r u
   . exact J (bF.mp u) ⟨rfl,rfl,λg x=>am (aJ mq x)⟩
 . exact p r u
theorem KC{w n c m}{j}{y z}(h:42<n)(o:bf c (m+8) q)(g:dr j)(Q:0<y/\y<=5)(G:z<200)(d:bf c (m+7) f)(p:I w 42 36 [.c c,.b 12] (ap q j)=some (.b ((3:Nat):Int),ap f j)):it w n c m q j y z:=by
 have L:ak=1000000:=rfl;refine bg (hI (w:=w) (n:=42) (by decide) d g) λa J t r=>?_;refine bg (hI (w:=w) (n:=42) (by decide) r g) λb U v k=>?_;refine bP (eG (w:=w) (n:=42) (by decide) k g 4 4 rfl (by decide)) λu l s x Z=>?_;obtain⟨i,Y⟩:∃i:fl,bM [.a [48],.a [48],.a [49],.a [53]] u=some (V.a i.b):=by
  refine rx s ?_ ?_ ?_ ?_;. exact⟨.c,rfl⟩
  . exact⟨.c,rfl⟩
  . exact⟨.d,rfl⟩
  . exact⟨.g,rfl⟩
 exact gG h o g p [.a (.d a b i)] l (Z.a (bw m 4)) (Di (by decide) (fe (s:=ab aW 2) (y:=aW.drop 3) (aK ((H t) ((H v) ((H x) ((N Y) rfl))))))) (hO y z (.l rfl rfl (λO e=>dw e rfl) .m) (by simp))
theorem KD{w n c m}{j}{y z}(h:42<n)(f:bf c (m+8) q)(g:dr j)(G:0<y/\y<=5)(a0:z<200)(p:bf c (m+7) t)(r:I w 42 36 [.c c,.b 12] (ap q j)=some (.b ((4:Nat):Int),ap t j)):it w n c m q j y z:=by have L:ak=1000000:=rfl;refine bP (eG (w:=w) (n:=42) (by decide) p g 5 5 rfl (by decide)) λu W v k i=>?_;refine bg (hI (w:=w) (n:=42) (by decide) i g) λa D l s=>?_;refine bg (hI (w:=w) (n:=42) (by decide) s g) λb C x Z=>?_;refine bg (hI (w:=w) (n:=42) (by decide) Z g) λd Y Q J=>?_;refine av (Pm v) λo U=>?_;exact gG h f g r [.a (.g o a b d)] Y (J.a (bw m 3)) (Dj (by decide) (fe (s:=ab aW 3) (y:=aW.drop 4) (aK ((H ((G2 w 42 (by decide)) _)) ((H k) ((N U) ((H l) ((H x) ((H Q) rfl))))))))) (hO y z (.l rfl rfl (λO e=>dw e rfl) .m) (by simp))
theorem KE{w n c m}{j}{y z}(h:42<n)(d:bf c (m+8) q)(g:dr j)(G:0<y/\y<=5)(a0:z<200)(f:bf c (m+7) p)(t:I w 42 36 [.c c,.b 12] (ap q j)=some (.b ((5:Nat):Int),ap p j)):it w n c m q j y z:=by
 have L:ak=1000000:=rfl;refine bP (eG (w:=w) (n:=42) (by decide) f g 3 3 rfl (by decide)) λu W r v k=>?_;refine bg (hI (w:=w) (n:=42) (by decide) k g) λa D b i=>?_;refine bP (eG (w:=w) (n:=42) (by decide) i g 2 2 rfl (by decide)) λl s x Z Y=>?_;obtain⟨o,Q⟩:∃o:iA,bM [.a [115,119],.a [115,98],.a [115,104]] u=some (V.a o.b):=by
  refine nV r ?_ ?_ ?_;. exact⟨.c,rfl⟩
  . exact⟨.d,rfl⟩
  . exact⟨.e,rfl⟩
 obtain⟨J,U⟩:∃o:eS,bM [.a [48,40,115,112,41],.a [52,40,115,49,41]] l=some (V.a o.a):=by
  refine CD x ?_ ?_;. exact⟨.c,rfl⟩
  . exact⟨.b,rfl⟩
 exact gG h d g t [.a (.c o a J)] s (Y.a (bw m 4)) (Dk (by decide) (fe (s:=ab aW 4) (y:=aW.drop 5) (aK ((H v) ((N Q) ((H b) ((H Z) ((N U) rfl)))))))) (hO y z (.l rfl rfl (λO e=>dw e rfl) .m) (by simp))
theorem KG{w n c m}{j}{y z}(h:42<n)(f:bf c (m+8) q)(g:dr j)(a0:0<y/\y<=5)(a1:z<200)(p:bf c (m+7) t)(r:I w 42 36 [.c c,.b 12] (ap q j)=some (.b ((6:Nat):Int),ap t j)):it w n c m q j y z:=by
 have L:ak=1000000:=rfl;refine bP (eG (w:=w) (n:=42) (by decide) p g 3 3 rfl (by decide)) λu W v k b=>?_;refine bg (hI (w:=w) (n:=42) (by decide) b g) λa D i l=>?_;refine bP (eG (w:=w) (n:=42) (by decide) l g 2 2 rfl (by decide)) λs x Z Y Q=>?_;obtain⟨o,J⟩:∃o:oy,bM [.a [108,119],.a [108,98],.a [108,98,117]] u=some (V.a o.b):=by
  refine nV v ?_ ?_ ?_;. exact⟨.a,rfl⟩
  . exact⟨.c,rfl⟩
  . exact⟨.d,rfl⟩
 obtain⟨U,G⟩:∃o:eS,bM [.a [48,40,115,112,41],.a [52,40,115,49,41]] s=some (V.a o.a):=by
  refine(vm Z).elim (λd=>?_) λd=>?_;. subst d;exact⟨.c,rfl⟩
  . subst d;exact⟨.b,rfl⟩
 exact gG h f g r [.a (.f o a U)] x (Q.a (bw m 4)) (Dl (by decide) (fe (s:=ab aW 5) (y:=aW.drop 6) (aK ((H k) ((N J) ((H i) ((H Y) ((N G) rfl)))))))) (hO y z (.l rfl rfl (λO e=>dw e rfl) .m) (by simp))
theorem KH{w n c m}{j}{y z}(h:42<n)(g:bf c (m+8) q)(u:dr j)(b:0<y/\y<=5)(e:z<200)(o:bf c (m+7) d)(f:I w 42 36 [.c c,.b 12] (ap q j)=some (.b ((7:Nat):Int),ap d j)):it w n c m q j y z:=by have L:ak=1000000:=rfl;refine gN (KP (w:=w) (n:=42) (by decide) o u) λt r v k p l=>?_;exact gG h g u f t r k (Dm (by decide) (fe (s:=ab aW 6) (y:=aW.drop 7) (aK ((H v) rfl)))) (hO y z p (ac l (by decide)))
theorem KI{w n c m}{j}{z y}(h:42<n)(v:bf c (m+8) q)(o:dr j)(t:0<z/\z<=5)(a0:y<200)(e:bf c (m+7) i)(l:I w 42 36 [.c c,.b 12] (ap q j)=some (.b ((8:Nat):Int),ap i j)):it w n c m q j z y:=by
 have L:ak=1000000:=rfl;refine bP (eG (w:=w) (n:=42) (by decide) e o 6 6 rfl (by decide)) λu F s x Z=>?_;refine bg (hI (w:=w) (n:=42) (by decide) Z o) λa M Y Q=>?_;refine bg (hI (w:=w) (n:=42) (by decide) Q o) λb P U G=>?_;refine bP (t' (w:=w) (n:=42) (by decide) G o z t) λg W f O D=>?_;refine av (E6 s) λk C=>?_;refine gG h v o l [.a (.b k a b (bb g))] W (D.a (bw m 3)) (Dn (by decide) (fe (s:=ab aW 7) (y:=aW.drop 8) (aK ((H ((lA w 42 (by decide)) _)) ((H x) ((N C) ((H Y) ((H U) ((H O) rfl))))))))) ⟨by simp,?_,?_,.inl rfl⟩;. intro r p;exact J (bF.mp p) (of (au f.right (au t.right (by decide))))
 . intro r p T d;rw [bF.mp p]at d;exact J (ag d).symm (.inl ⟨g,f.1,f.2,rfl⟩)
theorem KJ{w n c m}{j}{z y}(h:42<n)(g:bf c (m+8) q)(u:dr j)(o:0<z/\z<=5)(d:y<200)(f:bf c (m+7) p)(t:I w 42 36 [.c c,.b 12] (ap q j)=some (.b ((9:Nat):Int),ap p j)):it w n c m q j z y:=by have L:ak=1000000:=rfl;refine bP (KL (w:=w) (n:=42) (by decide) (bf.a (k:=m+6) f (cX (by decide) m)) u o d) λr v k b i=>?_;exact gG h g u t r v b (Do (by decide) (fe (s:=ab aW 8) (y:=aW.drop 9) (aK ((H k) rfl)))) i
theorem JE{w n c m}{j}{y z}(h:42<n)(g:bf c (m+8) q)(o:dr j)(p:0<y/\y<=5)(t:z<200)(d:bf c (m+7) u)(f:I w 42 36 [.c c,.b 12] (ap q j)=some (.b ((10:Nat):Int),ap u j)):it w n c m q j y z:=by have L:ak=1000000:=rfl;exact gG h g o f [.a .l] u (d.a (bw m 7)) (Dp (by decide) (fe (s:=ab aW 9) (y:=aW.drop 10) (aK rfl))) (hO y z (.l rfl rfl (λO e=>dw e rfl) .m) ((by decide)))
theorem Jx{w n c m}{j}{y z}(h:42<n)(f:bf c (m+8) q)(d:dr j)(s:0<y/\y<=5)(x:z<200)(k:bf c (m+7) b)(p:I w 42 36 [.c c,.b 12] (ap q j)=some (.b ((11:Nat):Int),ap b j)):it w n c m q j y z:=by
 have L:ak=1000000:=rfl;refine bg (hI (w:=w) (n:=42) (by decide) k d) λa t o i=>?_;refine bP (eG (w:=w) (n:=42) (by decide) i d 6 6 rfl (by decide)) λu r l g v=>?_;revert g;refine MB l ?_ ?_ ?_ ?_ ?_ ?_;. intro g;exact gG h f d p [.a (.o a)] r (v.a (bw m 5)) (pq (by decide) ((aS (s:=ab aW 10) (j:=aW.drop 11) (z:=[some (.c c),some (.b y),some (.b z),some (.b (11:Nat)),none,some (.a a.b)]) (y:=ap t j) (aA ((H o) rfl)) (fe (s:=ab aW 11) (y:=aW.drop 12) (by simp [aW,o,g,bj,ah,an.h]))))) (hO y z (.l rfl rfl (λO e=>dw e rfl) .m) (by simp))
 . intro g;exact gG h f d p [.a (.p a)] r (v.a (bw m 5)) (pq (by decide) ((aS (s:=ab aW 10) (j:=aW.drop 11) (z:=[some (.c c),some (.b y),some (.b z),some (.b (11:Nat)),none,some (.a a.b)]) (y:=ap t j) (aA ((H o) rfl)) (fe (s:=ab aW 11) (y:=aW.drop 12) (by simp [aW,o,g,bj,ah,an.h]))))) (hO y z (.l rfl rfl (λO e=>dw e rfl) .m) (by simp))
 . intro g;exact gG h f d p [.a (.d a a .c),.e a] r (v.a (bw m 5)) (pq (by decide) ((aS (s:=ab aW 10) (j:=aW.drop 11) (z:=[some (.c c),some (.b y),some (.b z),some (.b (11:Nat)),none,some (.a a.b)]) (y:=ap t j) (aA ((H o) rfl)) (fe (s:=ab aW 11) (y:=aW.drop 12) (by simp [aW,o,g,bj,ah,an.h,fl.b,vI,pX]))))) (hO y z (.l rfl rfl (λO e=>dw e rfl) (.l rfl rfl (λO e=>dw e rfl) .m)) (by simp))
 . intro g;exact gG h f d p [.c .e] r (v.a (bw m 5)) (pq (by decide) ((aS (s:=ab aW 10) (j:=aW.drop 11) (z:=[some (.c c),some (.b y),some (.b z),some (.b (11:Nat)),none,some (.a a.b)]) (y:=ap t j) (aA ((H o) rfl)) (fe (s:=ab aW 11) (y:=aW.drop 12) (by simp [aW,o,g,bj,ah,an.h,lN.h]))))) (hO y z (.l rfl rfl (λO e=>dw e rfl) .m) (by simp))
 . intro g;exact gG h f d p [.c .c] r (v.a (bw m 5)) (pq (by decide) ((aS (s:=ab aW 10) (j:=aW.drop 11) (z:=[some (.c c),some (.b y),some (.b z),some (.b (11:Nat)),none,some (.a a.b)]) (y:=ap t j) (aA ((H o) rfl)) (fe (s:=ab aW 11) (y:=aW.drop 12) (by simp [aW,o,g,bj,ah,an.h,lN.h]))))) (hO y z (.l rfl rfl (λO e=>dw e rfl) .m) (by simp))
 . intro g;exact gG h f d p [.a (.d a .e .g),.c .a] r (v.a (bw m 5)) (pq (by decide) ((aS (s:=ab aW 10) (j:=aW.drop 11) (z:=[some (.c c),some (.b y),some (.b z),some (.b (11:Nat)),none,some (.a a.b)]) (y:=ap t j) (aA ((H o) rfl)) (fe (s:=ab aW 11) (y:=aW.drop 12) (by simp [aW,o,g,bj,ah,an.h,fl.b,Rt,lN.h]))))) (hO y z (.l rfl rfl (λO e=>dw e rfl) (.l rfl rfl (λO e=>dw e rfl) .m)) (by simp))
theorem JB{w n c m}{p}{d f}(h:42<n)(y:bf c (m+8) q)(j:dr p)(u:0<d/\d<=5)(g:f<200):it w n c m q p d f:=by
 refine bP (eG (w:=w) (n:=42) (by decide) y j 12 12 rfl (by decide)) λv r t z o=>?_;revert z;refine Mw t ?_ ?_ ?_ ?_ ?_ ?_ ?_ ?_ ?_ ?_ ?_ ?_;. intro z;exact JC h y j u g o z
 . intro z;exact JD h y j u g o z
 . intro z;exact KA h y j u g o z
 . intro z;exact KC h y j u g o z
 . intro z;exact KD h y j u g o z
 . intro z;exact KE h y j u g o z
 . intro z;exact KG h y j u g o z
 . intro z;exact KH h y j u g o z
 . intro z;exact KI h y j u g o z
 . intro z;exact KJ h y j u g o z
 . intro z;exact JE h y j u g o z
 . intro z;exact Jx h y j u g o z
structure qV(z:Nat)(y:List an):Prop where
a:y.length<=3
d:∀r∈y,bA r=true
c:∀r∈y,∀g,dk r=some g->∃k,1<=k/\k<=z/\g=bb k
b:fB y=[]
def Az(w n c m:Nat)(q:hv)(y:af)(z j:Nat):Prop:=∃(u:List an)(g:hv),I w n 43 [.c c,.b (z:Int),.b (j:Int)] (ap q y)=some (bj u,ap g y)/\bf c m g/\qV z u
theorem xH z(h:hu q)(j:q.length<=3):qV z q:=⟨j,λr y=>(h r y).1,λr y g u=>(C (((h r y).2.1).symm.trans u)),En h⟩
def gq(v:Nat):List an:=if v%2=1 then [.a (.d .c .c .h)]else []
theorem yF{v}{y:an->Prop}(h:∀_:v%2=1,y (.a (.d .c .c .h))):∀r∈gq v,y r:=by
 unfold gq;by_cases z:v%2=1;. exact J (if_pos z) (bm (h z) fT)
 . exact J (if_neg z) fT
theorem CL{z k v}(h:1<=k/\k<=z/\z<=5):qV z (.a (.e (bb k))::gq v):=by refine⟨by unfold gq;split<;>simp,bm (of (au h.right.left (au h.right.right (by decide)))) (yF λO=>rfl),bm (λg e=>⟨k,h.1,h.2.1,(ag e).symm⟩) (yF λO O e=>C e),by unfold gq;split<;>rfl⟩
theorem JA{w n c m}{u}(h:43<n)(a0:bf c (m+2) q)(Q:dr u)(t:0<y/\y<=5)(G:z<y):Az w n c m q u y z:=by
 have L:ak=1000000:=rfl;refine bP (eG (w:=w) (n:=43) (by exact by decide) a0 Q 9 9 rfl (by exact by decide)) λv q1 hv X A=>?_;refine bP (t' (w:=w) (n:=43) (by exact by decide) A Q y t) λg r l e2 F=>?_;have og:=of (k:=g) (by exact au l.right (au t.right (by decide)));have hs:cw (z+1)=true:=ok (p:=z+1) (ac G (ac t.2 (by decide)));have hl:=oj (k:=z+1) (by exact au G (au t.right (by decide)));have Z:2+(dW (z+1)).length<ak:=by
  have:dW (z+1)=dW (z+1:Nat):=by congr 1
  exact J this (au (cX hl 2) (by decide))
 have Z9:46::76::dW (z+1)=bb (z+1):=rfl;have k:(bb g).length<=5:=J dN (cX (oj (k:=g) (au l.right (au t.right (by decide)))) 2);have b1:∀o,cZ o .Add (.a [37,104,105,40]) (.a (bb g))=some (.a ([37,104,105,40]++bb g)):=λo=>jB (au (cX k 4) (by decide));have b2:∀o,cZ o .Add (.a (37::104::105::40::bb g)) (.a [41])=some (.a (37::104::105::40::(bb g++[41]))):=λo=>jB (a:=37::104::105::40::bb g) (b:=[41]) (au (hy (hy k 4) 1) (by decide));have b3:∀o,cZ o .Add (.a [37,108,111,40]) (.a (bb g))=some (.a ([37,108,111,40]++bb g)):=λo=>jB (au (cX k 4) (by decide));have b4:∀o,cZ o .Add (.a (37::108::111::40::bb g)) (.a [41])=some (.a (37::108::111::40::(bb g++[41]))):=λo=>jB (a:=37::108::111::40::bb g) (b:=[41]) (au (hy (hy k 4) 1) (by decide));have M:cw 2=true:=by decide
 have P:∀x:Int,x.fmod 2=x%2:=λx=>jL _ (by exact by decide);have j:∀s:List an,bu (aI aj (I w 43) w (bJ.drop 2) [some (.c c),some (.b y),some (.b z),some (.b v),some (.a (bb g)),some (bj (gq v))] (ap r u)) (bj s) (ap r u)->qV y s->Az w n c m q u y z:=λs e i=>by
  refine(ax s r ⟨px (f:=BY) h rfl (by decide) rfl rfl a0 F Q ?_ (sn _ _ _),F,i⟩);refine aS (s:=ab bJ 0) (j:=bJ.drop 1) (z:=[some (.c c),some (.b (y:Int)),some (.b (z:Int)),some (.b (v:Int)),some (.a (bb g)),none]) (y:=ap r u) (by exact aA ((H X) ((H e2) rfl))) (aS (s:=ab bJ 1) (j:=bJ.drop 2) (z:=[some (.c c),some (.b (y:Int)),some (.b (z:Int)),some (.b (v:Int)),some (.a (bb g)),some (bj (gq v))]) (y:=ap r u) ?_ e);by_cases p:v%2=1
  . have Y:(v:Int)%2=1:=by exact aJ Int.ofNat p
    have:bj (gq v)=.d [.d [.a [97,100,100,105],.a [97,48],.a [97,48],.a [57]]]:=by unfold gq;exact J (if_pos p) rfl
    exact J this (aA (aZ (by simp [bJ,M,P,Y]) rfl))
  . have Y:¬(v:Int)%2=1:=λh=>p (Int.ofNat_inj.mp h);have:bj (gq v)=.d []:=by unfold gq;exact J (if_neg p) rfl
    exact J this (aA (as (by simp [bJ,M,P,Y]) rfl))
 have U:(gq v).length<=1:=by unfold gq;split<;>simp
 have T:=λo a1=>yD (z:=o) (a:=[V.d [.a [106,97,108],.a [122,101,114,111],.a a1]]) (b:=gq v) (au (cX U 1) (by decide));have a2:=λo=>yD (z:=o) (a:=[V.d [.a [106,97,108,114],.a [122,101,114,111],.a [48,40,114,97,41]]]) (b:=gq v) (au (cX U 1) (by decide));have skip:∀i,i<5->(¬(v:Int)<([2,4,6]:List Int).getD i 100\/3<=i)->(¬(v:Int)=([0,0,0,6,7]:List Int).getD i 100\/i<3)->∀W,az aj (I w 43) w (ab bJ (i+2)) [some (.c c),some (.b (y:Int)),some (.b (z:Int)),some (.b (v:Int)),some (.a (bb g)),W] (ap r u)=some (.a,[some (.c c),some (.b (y:Int)),some (.b (z:Int)),some (.b (v:Int)),some (.a (bb g)),W],ap r u):=by
  intro i hi d f W;revert d f;refine DZ hi ?_ ?_ ?_ ?_ ?_;. intro d f;have d:¬(v:Int)<2:=d.resolve_right (by decide);exact aA (as (by simp [bJ,d]) rfl)
  . intro d f;have d:¬(v:Int)<4:=d.resolve_right (by decide);exact aA (as (by simp [bJ,d]) rfl)
  . intro d f;have d:¬(v:Int)<6:=d.resolve_right (by decide);exact aA (as (by simp [bJ,d]) rfl)
  . intro d f;have f:¬(v:Int)=6:=f.resolve_right (by decide);exact aA (as (by simp [bJ,f]) rfl)
  . intro d f;have f:¬(v:Int)=7:=f.resolve_right (by decide);exact aA (as (by simp [bJ,f]) rfl)
 by_cases R:v<2;. refine j [] (fe (s:=ab bJ 2) (y:=bJ.drop 3) ?_) (xH _ (by simp [hu]) (by simp));exact⟨_,aA ((aZ (em (by exact cY.mpr R))) rfl)⟩
 have b:=skip 0 (by exact by decide) (.inl (by exact iH (cY.mpr (g' R)))) (.inr (by exact by decide));by_cases K:v<4;. refine j (.a (.e (bb (z+1)))::gq v) (aS (s:=ab bJ 2) (j:=bJ.drop 3) (b _) (fe (s:=ab bJ 3) (y:=bJ.drop 4) ?_)) (CL ⟨by exact gY 1 z,by exact G,t.2⟩);exact⟨_,aA ((aZ (em (by exact cY.mpr K))) ((N (if_pos hs:f' [] .c [.b (z+1:Int)]=some (.a (dW (z+1:Int))))) ((N (jB (a:=[46,76]) Z)) ((N (T _ (bb (z+1)))) rfl))))⟩
 have a:=skip 1 (by exact by decide) (.inl (by exact iH (cY.mpr (g' K)))) (.inr (by exact by decide));by_cases B:v<6;. refine j (.a (.e (bb g))::gq v) (aS (s:=ab bJ 2) (j:=bJ.drop 3) (b _) (aS (s:=ab bJ 3) (j:=bJ.drop 4) (a _) (fe (s:=ab bJ 4) (y:=bJ.drop 5) ?_))) (CL ⟨l.1,l.2,t.2⟩);exact⟨_,aA ((aZ (em (by exact cY.mpr B))) ((N (T _ _)) rfl))⟩
 have D:=skip 2 (by exact by decide) (.inl (by exact iH (cY.mpr (g' B)))) (.inr (by exact by decide));by_cases k7:v=6;. refine j [.a .k,.g,.a (.g .c .c .c .f)] (aS (s:=ab bJ 2) (j:=bJ.drop 3) (b _) (aS (s:=ab bJ 3) (j:=bJ.drop 4) (a _) (aS (s:=ab bJ 4) (j:=bJ.drop 5) (D _) (fe (s:=ab bJ 5) (y:=bJ.drop 6) ?_)))) (xH _ (.l rfl rfl (λO e=>dw e rfl) (.l rfl rfl (λO e=>dw e rfl) (.l rfl rfl (λO e=>dw e rfl) .m))) (by simp));exact⟨_,aA ((aZ (ez.mpr (by lia))) rfl)⟩
 have E:=skip 3 (by exact by decide) (.inr (by exact by decide)) (.inl (by refine(?_:¬(v:Int)=6);lia));by_cases k8:v=7
 . refine j (.a .k::gq v) (aS (s:=ab bJ 2) (j:=bJ.drop 3) (b _) (aS (s:=ab bJ 3) (j:=bJ.drop 4) (a _) (aS (s:=ab bJ 4) (j:=bJ.drop 5) (D _) (aS (s:=ab bJ 5) (j:=bJ.drop 6) (E _) (fe (s:=ab bJ 6) (y:=bJ.drop 7) ?_))))) (xH _ ?_ (by simp;exact ac U (by decide)));. exact⟨_,aA ((aZ (ez.mpr (by lia))) ((N (a2 _)) rfl))⟩
   . exact Mp.bm ⟨rfl,rfl,λO e=>dw e rfl⟩ (yF λO=>⟨rfl,rfl,λO e=>dw e rfl⟩)
 have S:=Kp (k:=g) (by lia);refine j [.a (.n (bb g)),.a (.m (bb g)),.a .j] (aS (s:=ab bJ 2) (j:=bJ.drop 3) (b _) (aS (s:=ab bJ 3) (j:=bJ.drop 4) (a _) (aS (s:=ab bJ 4) (j:=bJ.drop 5) (D _) (aS (s:=ab bJ 5) (j:=bJ.drop 6) (E _) (aS (s:=ab bJ 6) (j:=bJ.drop 7) ((skip 4 (by exact by decide) (.inr (by exact by decide)) (.inl (by refine(?_:¬(v:Int)=7);lia))) _) (fe (s:=ab bJ 7) (y:=bJ.drop 8) ?_)))))) ⟨by simp,?_,?_,rfl⟩;. rw [bJ];simp only [Qq,Qr];simp [bj,ah,an.h,L,(show(bb g).length<1000 by exact Nat.lt_of_le_of_lt k (by decide)),b1,b2,b3,b4]
 . exact Mp.bm S (Mp.bm S (Mp.bm rfl fT))
 . exact Mp.bm (λO e=>C e) (Mp.bm (λO e=>C e) (Mp.bm (λO e=>C e) fT))
def Dx(t:B):Nat:=t.foldl (λn c=>10*n+(c-48)) 0
theorem Dy:((List.range 200).all λk=>Dx (dW (k:Nat))==k)=true:=by decide+kernel
theorem Ef{a b:Nat}(z:a<200)(y:b<200)(h:dW (a:Int)=dW (b:Int)):a=b:=by have q:=ez.mp (cs.mp Dy a (fJ.mpr z));refine J (aN q) (J (aN (ez.mp (cs.mp Dy b (fJ.mpr y)))) ?_);exact J h rfl
theorem MC(z:a<200)(y:b<200)(h:bb a=bb b):a=b:=Ef z y (List.append_cancel_left h)
theorem Oe(z:a<200)(y:b<200)(h:dq a=dq b):a=b:=Ef z y (List.append_cancel_left h)
theorem D0(y:a<200):bb a≠dq b:=λh=>by have z:=aJ List.length h;unfold bb dq at z;rw [dN,dN]at z;have:=oj (k:=a) (bl y (by decide));simp at z;lia
noncomputable def hn:B:=[104]
noncomputable def vJ:B:=[116,97,98,108,101]
theorem Kw a:hn≠bb a:=λh=>d_ h rfl
theorem Kx a:hn≠dq a:=λh=>d_ h rfl
theorem QR a:vJ≠bb a:=λh=>d_ h rfl
theorem QS a:vJ≠dq a:=λh=>d_ h rfl
structure k'(y k:Nat)(z:List an):Prop where
h:∀r∈z,bA r=true
c:∀r∈z,∀g,dk r=some g->(∃j,1<=j/\j<=y/\g=bb j)\/g∈fB z
b:(fB z).Nodup
a:∀g∈fB z,g=hn\/(∃j,j<k/\g=bb j)\/∃f,f<z.length/\g=dq f
e:∀j,j<k->bb j∈fB z
d:hn∈fB z
theorem rr a b:fB (a++b)=fB a++fB b:=by unfold fB;exact J List.filterMap_append rfl
def mT:List an:=[.c .f,.c .b,.d hn]
theorem Ln z:k' z 0 mT:=by refine⟨bm rfl (bm rfl (bm rfl fT)),bm (λO e=>C e) (bm (λO e=>C e) (bm (λO e=>C e) fT)),by decide,λg y=>?_,λj q=>by lia,by decide⟩;. exact .inl (bF.mp y)
theorem Df(h:k' o k m)(d:k<7):k' o (k+1) (m++[.d (bb k)]):=by
 have w:fB (m++[.d (bb k)])=fB m++[bb k]:=rr _ _;refine⟨λr z=>?_,λr z g y=>?_,?_,λg y=>?_,λj c=>?_,?_⟩
 . refine(cr.mp z).elim (λz=>?_) λz=>?_;. exact h.h r z
   . exact J (bF.mp z) (of d)
 . rcases cr.mp z with z|z
   . refine(h.c r z g y).elim (λq=>?_) λq=>?_;. exact .inl q
     . exact .inr (by exact J w (iK _ q))
   . exact C ((bF.mp z)▸y)
 . refine J w (iE.mpr ⟨h.b,by simp,λa t b v=>?_⟩);refine J (bF.mp v) ?_;rintro rfl;refine(h.a _ t).elim (λe=>?_) λp=>p.elim (λu=>?_) λu=>?_;. exact Kw k e.symm
   . refine D u λj c e=>?_;have:=MC (bl d (by decide)) (bl c (ac (bC d) (by decide))) e;lia
   . refine D u λf O e=>?_;exact D0 (bl d (by decide)) e
 . rw [w]at y;rcases cr.mp y with y|y
   . refine(h.a g y).elim (λe=>?_) λp=>p.elim (λu=>?_) λu=>?_;. exact .inl e
     . refine D u λj c e=>?_;exact .inr (.inl ⟨j,bX c,e⟩)
     . refine D u λf i e=>?_;exact .inr (.inr ⟨f,by simp;exact bX i,e⟩)
   . exact .inr (.inl ⟨k,aH (Nat.succ k),bF.mp y⟩)
 . refine J w ?_;by_cases e:j=k;. clear c w d h;exact J e (sR _ (bF.mpr rfl))
   . exact iK _ (h.e j (by lia))
 . exact J w (iK _ h.d)
theorem De(h:k' w k o)(n:k<7)(l:o.length<200)(i:mj w o.length c)(p:c=[]\/0<c.length):k' w k (o++c):=by
 have d:=rr o c;refine⟨λr y=>?_,λr y g z=>?_,?_,λg z=>?_,λj m=>?_,?_⟩
 . refine(cr.mp y).elim (λy=>?_) λy=>?_;. exact h.h r y
   . exact i.d r y
 . rcases cr.mp y with y|y
   . refine(h.c r y g z).elim (λq=>?_) λq=>?_;. exact .inl q
     . exact .inr (by exact J d (iK _ q))
   . refine(i.b r y g z).elim (λq=>?_) λu=>?_;. exact .inl q
     . refine ae u λs q=>?_;exact J s (.inr (by refine J d ?_;exact sR _ q))
 . refine J d ((i.a).elim (λe=>?_) λe=>?_);. refine J e ?_;(refine J (gX _) ?_);exact h.b
   . refine J e (iE.mpr ⟨h.b,by simp,λa x b Z=>?_⟩);refine J (bF.mp Z) ?_;rintro rfl;refine(h.a _ x).elim (λe=>?_) λt=>t.elim (λu=>?_) λu=>?_;. exact Kx _ e.symm
     . refine D u λj m e=>?_;exact D0 (bl m (ac (bC n) (by decide))) e.symm
     . refine D u λf v e=>?_;have:=Oe l (bl v (bC l)) e;lia
 . rw [d]at z;rcases cr.mp z with z|z
   . refine(h.a g z).elim (λe=>?_) λt=>t.elim (λu=>?_) λu=>?_;. exact .inl e
     . refine D u λj m e=>?_;exact .inr (.inl ⟨j,m,e⟩)
     . refine D u λf v e=>?_;exact .inr (.inr ⟨f,by exact J dN (bl v (bw (List.length o) (List.length c))),e⟩)
   . refine(i.a).elim (λe=>?_) λe=>?_;. rw [e]at z;cases z
     . rw [e]at z;refine .inr (.inr ⟨o.length,?_,bF.mp z⟩);refine J dN ?_;clear d i;refine p.elim (λY=>?_) λq=>?_;. subst Y;cases e
       . exact au (bw (List.length o) 0) (ng q (List.length o))
 . exact J d (iK _ (h.e j m))
 . exact J d (iK _ h.d)
theorem I6{z y}(e:qV z q):mj z y q:=⟨ac e.a (by decide),e.d,λr j g u=>.inl (e.c r j g u),.inl e.b⟩
theorem DS{z:Type}(l:List z):l=[]\/0<l.length:=by induction l using List.casesOn<;>simp
def kc(z:Nat):List an:=[.d (bb z),.a .k,.c .d,.d vJ,.c .g,.g]
structure ti(z:List B)(y:List an):Prop where
b:y.length<=120
c:fB y=z
h:z.Nodup
d:∀r∈y,bA r=true
f:∀r∈y,∀g,dk r=some g->g∈z
a:hn∈z
e:kP∉z
theorem R8(h:k' z z u)(p:0<z/\z<=5)(t:u.length<=110):∃v,ti v (u++kc z):=by
 have w:=Df h (au p.right (by decide));have o:fB (u++kc z)=fB (u++[.d (bb z)])++[vJ]:=by refine J (rr _ _) (J (rr _ _) ?_);exact J (gW _ _ _) rfl
 refine⟨_,by refine J dN ?_;unfold kc;simp;exact ac t (by decide),o,?_,λr y=>?_,λr y g d=>?_,iK _ w.d,?_⟩
 . refine iE.mpr ⟨w.b,(by decide),λa k b i=>?_⟩;refine J (bF.mp i) ?_;rintro rfl;rcases w.a _ k with e|⟨j,c,e⟩|⟨f,l,e⟩;. exact absurd e (by decide)
   . exact QR _ e
   . exact QS _ e
 . refine(cr.mp y).elim (λy=>?_) λy=>?_;. exact h.h r y
   . exact(bm (of (au p.right (by decide))) (bm rfl (bm rfl (bm rfl (bm rfl (bm rfl fT))))):∀r∈kc z,bA r=true) r y
 . have m:(∃j,1<=j/\j<=z/\g=bb j)\/g∈fB u:=by
    refine(cr.mp y).elim (λy=>?_) λy=>?_;. exact h.c r y g d
    . exact C (((bm rfl (bm rfl (bm rfl (bm rfl (bm rfl (bm rfl fT))))):∀r∈kc z,dk r=none) r y).symm.trans d)
   refine iK _ ?_;clear d;rcases m with⟨j,_,c,rfl⟩|q;. exact w.e j (eA c)
   . exact J (rr _ _) (iK _ q)
 . intro q;refine(cr.mp q).elim (λq=>?_) λq=>?_
   . rcases w.a _ q with e|⟨j,c,e⟩|⟨f,l,e⟩;. exact absurd e (by decide)
     . exact d_ e rfl
     . exact d_ e rfl
   . exact absurd (bF.mp q) (by decide)
theorem mG q z x:ap q (z++[x])=ap q z++[x]:=by exact J (gW _ _ _) rfl
theorem Hb{z}(h:dr z)(y:dB 0 x=true):dr (z++[x]):=by unfold dr;refine J (BB _ _) (J h ?_);refine(?_:(true&&(dB 0 x&&true))=true);exact J y rfl
theorem vS(h:z.length=n):ek (z++[bj y]) .q (.c n)=true:=by exact J h.symm Nf
theorem Nd(h:z.length=n):ek (z++[bj y]) .e (.c n)=true:=by exact J h.symm vp
theorem vT(h:z.length=n):ek (z++[bj y]) .u (.c n)=true:=by subst h;exact DK
theorem yH(h:y.length=n)(j:q.length+z.length<ak):cN (y++[bj q]) .q (.c n) [bj z]=some (.j,y++[bj (q++z)]):=by subst h;unfold bj;refine J (Gt (by simpa using j)) (J fz ?_);rfl
theorem Gu{y}(h:g.length=n)(w:q.length+y.length<ak)(j:(V.d y)=bj z):cN (g++[bj q]) .q (.c n) [.d y]=some (.j,g++[bj (q++z)]):=by
 subst h;have u:y.length=z.length:=by unfold bj at j;refine J (V.d.inj j) ?_;(exact J (bU _) rfl)
 rw [j];exact yH rfl (au (cX (de (aN u)) (List.length q)) w)
theorem Gs{x g:B}(h:z.length=n)(q:y.length<ak)(j:x=g++[58]):cN (z++[bj y]) .e (.c n) [.d [.a x]]=some (.j,z++[bj (y++[.d g])]):=by(subst h;refine J j ?_);unfold bj;refine J (tm (by simpa using q)) (J fz ?_);rfl
theorem Jn(h:z.length=n):aO (z++[bj y]) (.c n)=bj y:=by exact J h.symm ob
theorem M1(h:z.length=n):f' (z++[bj y]) .a [.c n]=some (.b (y.length:Int)):=by refine J jV (J (Jn h) ?_);unfold bj;simp
abbrev lK:List aY:=cz ee 1
noncomputable abbrev VI:List aY:=cz lK 1
noncomputable abbrev hP(c:Nat)(s z:Nat)(y:Nat)(q j:Option V):ao:=[some (.c c),some (.b (s:Int)),some (.b (z:Int)),some (.c y),q,j,none,none,none,none,none]
section
variable{z:Nat}
inductive AF(c m s y z k w:Nat)(u:af)(o:Option V)(j:List Nat)(d:ao)(f:af):Prop|a(q g p:_)(_:d=hP c s y z o p)(_:f=ap q u++[bj g])(_:bf c (m+8*j.length) q)(_:k' y k g)(_:g.length+5*j.length<=w)(_:(ap q u).length=z)
theorem tT(q:dr y):dr (y++[bj j]):=Hb q (AU 0 j)
theorem RD(n:Nat):ou (n:Int)=(List.range n).map λi:Nat=>V.b (i:Int):=rfl
theorem ru:1000<ak:=by decide
theorem L9 n:ul [.b n]=if-(ak:Int)<=n/\n<(ak:Int)then some (ou n)else none:=rfl
theorem Md l:gs 1 l=ul l:=rfl
theorem Me{t:Nat}(h:t<=1000):-(ak:Int)<=(t:Int)/\(t:Int)<(ak:Int):=by have y:=ru;exact⟨oD (Int.neg_nonpos_of_nonneg (fw _)) (fw _),cY.mpr (au h y)⟩
theorem rE{t:Nat}(h:t<=1000):gs 1 [.b (t:Int)]=some ((List.range t).map λi:Nat=>V.b (i:Int)):=by refine J (Md _) (J (L9 _) ?_);refine J (if_pos (Me h)) (J (RD _) ?_);rfl
theorem RT{d b}(G:dr j)(a0:0<y/\y<=5)(hk:k<7)(f:bf c (m+25) q)(x:k' y k g)(a1:g.length<=150)(e:(ap q j).length=z):cA (az aj (I w 44) w (ab lK 1) (hP c s y z d b) (ap q j++[bj g])) (λr=>r.1=.a/\AF c m s y z k (g.length+15) j d [] r.2.1 r.2.2):=by
 have L:ak=1000000:=rfl;refine bP (eG (w:=w) (n:=44) (by decide) (bf.a (k:=(m+24)+1) f (aH (m+24+1))) (tT (j:=g) G) 4 4 rfl (by decide)) λv U M l W=>?_;replace l:=(mG _ _ _)▸l;replace l:=(mG _ _ _)▸l;obtain⟨t,Z,P⟩:∃t:Nat,t<=3/\bM [.b 2,.b 0,.b 1,.b 3] v=some (V.b t):=by
  refine rx M ?_ ?_ ?_ ?_;. exact⟨2,by decide,rfl⟩
  . exact⟨0,by decide,rfl⟩
  . exact⟨1,by decide,rfl⟩
  . exact⟨3,by decide,rfl⟩
 refine J (ga (m:=[]) (z:=1) (y:=hP c s y z d b) (q:=ap q j++[bj g]) (d:=hP c s y z d b) (j:=ap q j++[bj g]) (c:=ap U j++[bj g]) (o:=[.b t]) (f:=(List.range t).map λi:Nat=>V.b i) rfl (by exact fb ((H l) ((N P) rfl))) (rE (t:=t) (by exact ac Z (by decide)))) (gr (λi:Nat=>V.b (i:Int)) (AF c m s y z k (g.length+15) j d) _ ?_ ?_ (List.range t) _ _ ⟨U,g,b,rfl,rfl,W.a (J iC (cX (nl 8 Z) m)),x,J iC (cX (nl 5 Z) _),(om f W j).trans e⟩);. rintro T R h;exact⟨rfl,h⟩
 . rintro a u T R⟨q,p,b,rfl,rfl,f,x,Y,e⟩;simp only [List.length_cons]at f Y;have Q:p.length<=165:=ac (bw _ _) (ac Y (hy a1 15));refine bP (JB (w:=w) (n:=44) (d:=y) (f:=p.length) (by decide) (bf.a (k:=(m+8*u.length)+8) f (aH (m+8*List.length u+8))) (tT (j:=p) G) a0 (au Q (by decide))) λK O n D C=>?_;replace n:=(mG _ _ _)▸n;replace n:=(mG _ _ _)▸n;have F:=(om f D j).trans e;have o:=C.c;refine J kD (J (if_pos (by simp)) ?_);refine qJ (z:=hP c s y z d (some (.b a))) (y:=ap O j++[bj (p++K)]) ?_ ?_;. exact aA ((ft (vS e)) ((N (M1 e)) ((H n) ((H (yH F (au (dV Q o) (by decide)))) rfl))))
   . refine⟨_,rfl,O,_,_,rfl,rfl,D,De x hk (au Q (by decide)) C (DS _),?_,F⟩;exact J dN (ac (hy (cX o _) _) (ac (de (show p.length+5+5*u.length=p.length+(5*u.length+5)by rw [Nat.add_assoc,kq 5])) Y))
end
section
variable{z:Nat}
inductive AI(c m s y z:Nat)(u:af)(j:List Nat)(w:ao)(o:af):Prop|a(k q g d f:_)(_:j=(List.range y).drop k)(_:k<=y)(_:w=hP c s y z d f)(_:o=ap q u++[bj g])(_:bf c (m+27*j.length) q)(_:k' y k g)(_:g.length+19*j.length<=100)(_:(ap q u).length=z)
theorem zc(h:a::y=(List.range m).drop k):a=k/\y=(List.range m).drop (k+1)/\k<m:=by
 have j:k<m:=by apply Classical.byContradiction;intro q;rw [oE (by exact J iC (g' q))]at h;exact d_ h rfl
 rw [dT (by exact J iC j)]at h;have u:=(jJ h).1;rw [List.getElem_range]at u;exact⟨u,(jJ h).2,j⟩
theorem kA(h:a.length+b.length<1000):cZ y .Add (.a a) (.a b)=some (.a (a++b)):=jB (by have:=ru;exact bl h (by decide))
theorem RX(Q:dr u)(g:0<y/\y<=5)(b:bf c (m+27*y) q)(f:(ap q u).length=z):cA (az aj (I w 44) w (ab ee 1) (hP c s y z none none) (ap q u++[bj mT])) (λr=>r.1=.a/\AI c m s y z u [] r.2.1 r.2.2):=by
 refine J (ga (m:=[]) (z:=1) (y:=hP c s y z none none) (q:=ap q u++[bj mT]) (d:=hP c s y z none none) (j:=ap q u++[bj mT]) (c:=ap q u++[bj mT]) (o:=[.b y]) (f:=(List.range y).map λi:Nat=>V.b i) rfl (fb rfl) (rE (ac g.right (by decide)))) (gr (λi:Nat=>V.b (i:Int)) (AI c m s y z u) _ ?_ ?_ (List.range y) _ _ ⟨0,q,mT,none,none,rfl,bC g.left,rfl,rfl,b.a (by refine J iC ?_;exact aH (m+27*y)),Ln y,by refine J iC ?_;simp [mT];exact ac (cX (nl 19 g.right) 3) (by decide),f⟩);. rintro L l h;exact⟨rfl,h⟩
 . rintro a j L l⟨k,q,p,x4,Y,o,n,rfl,rfl,b,S,x,f⟩;clear n;refine ae (zc o) λX A=>?_;subst X;refine ae A λd o=>?_;simp only [List.length_cons]at b x;have U:p.length+19*j.length<=81:=ye (b:=19) ((Nat.add_assoc _ _ _).symm▸x);have G:=ac (bw _ _) U;have t:=oj (k:=a) (bl o (ac g.right (by decide)));have a0:(bb a).length<=5:=J dN (cX t 2);have W:=ru;refine J kD (J (if_pos (by simp)) ?_);refine qJ (s:=ab lK 0) (g:=lK.drop 1) (z:=hP c s y z (some (.b a)) Y) (y:=ap q u++[bj (p++[.d (bb a)])]) ?_ ?_;. exact aA ((ft (Nd f)) ((N (if_pos (ok (p:=a) (ac (bC o) (ac g.2 (by decide)))))) ((N ((λl=>kA (by simp;lia)) _)) ((N ((λl=>kA (by simp;lia)) _)) ((H (Gs (y:=p) f (au G (by decide)) rfl)) rfl)))))
   . obtain⟨⟨fl,CC,a1⟩,e3,O,q2,Z,y5,D,C,F,P0,e,M⟩:=RT (w:=w) (m:=(m+27*j.length)+2) (d:=some (.b a)) (b:=Y) (s:=s) (z:=z) Q g (show a+1<7 by exact au o (au g.right (by decide))) (bf.a (k:=(m+27*j.length)+2+25) b (by exact aH (m+27*List.length j+2+25))) (Df S (by exact bl o (ac g.right (by decide)))) (by refine J dN ?_;simp;exact ac (ac (bw (List.length p) (19*(List.length j+1))) x) (by decide)) f;dsimp only at O D C;subst O D C;rw [dN]at e;simp only [List.length_cons,List.length_nil]at e;refine qJ (s:=ab lK 1) (g:=lK.drop 2) e3 (bP (JA (w:=w) (n:=44) (y:=y) (z:=a) (by decide) (bf.a (k:=(m+27*j.length)+2) F (by simp)) (tT (j:=Z) Q) g o) λes P T R K=>?_);rw [mG,mG]at T;have B:=(om F R u).trans M;have v:=K.a;have E:Z.length<=97:=ac e (hy G 16);refine qJ (s:=ab lK 2) (g:=lK.drop 3) (z:=hP c s y z (some (.b a)) y5) (y:=ap P u++[bj (Z++es)]) ?_ ?_;. exact aA ((ft (vS M)) ((H T) ((H (yH B (au (dV E v) (by decide)))) rfl)))
     . have:lK.drop 3=[]:=rfl;refine J this ⟨_,rfl,a+1,P,_,_,_,d,o,rfl,rfl,R,De P0 (au o (au g.right (by decide))) (au E (by decide)) (I6 K) (DS _),?_,B⟩;exact J dN (ac (hy (dV e v) _) (ac (de (Nat.add_right_comm p.length 19 (19*j.length))) (hy U 19)))
end
noncomputable def zx:B:=[98,108,97,110,107]
noncomputable def qQ:Nat->List B|0=>[[106,97,108],[122,101,114,111],[56]]|1=>[[98,101,113],[116,48],[116,49],[45,52]]|_=>[[97,117,105,112,99],[116,48],[48]]
inductive kY(s:Nat):List B->B->Prop where|b(z:B)(l:List B)(y:l≠[])(q:z.length<=100)(j:(l.map (λO=>O.length)).sum<=100)(u:l.length<=4):kY s (z::l) (cE s++z++[32]++cm (ci s) l)|d:kY s [zx] []|c(g:B):kY s [g++[58]] (g++[58])|a(z:B)(x:Nat)(w:x≠58)(o:z++[x]≠zx)(y:z.length<=100):kY s [z++[x]] (cE s++(z++[x]))
theorem Pf s r(h:bA r=true):kY s r.h (r.b s):=by
 induction r with|a i=>have y:=v' i;refine ae (tr h) λq j=>?_;exact .b i.a i.h (by clear j q y h;induction i<;>simp []) (ac y (by decide)) (ac q (by decide)) (ac j (by decide))|d u=>exact .c u|g=>exact .d|f b=>
clear h;induction b;. exact .a [46,108,111,99,32] 52 (by decide) (by decide) (by decide)
. exact .a [46,108,111,99,32] 57 (by decide) (by decide) (by decide)|e z=>
have:=i_ z;have e:pX.length=8:=rfl;have w:([z.b,z.b,pX].map (λO=>O.length)).sum<=100:=by simp only [List.map_cons,List.map_nil,List.sum_cons,List.sum_nil,e];exact au (dV this (hy this 7)) (by decide)
exact .b vI [z.b,z.b,pX] (by simp) (by decide) w (by simp)|c z=>
clear h;induction z;. exact .a [46,116,101,120] 116 (by decide) (by decide) (by decide)
. exact .a [46,103,108,111,98,108,32] 104 (by decide) (by decide) (by decide)
. exact .a [46,114,111,100,97,116] 97 (by decide) (by decide) (by decide)
. exact .a [46,119,111,114,100,32,46,76] 49 (by decide) (by decide) (by decide)
. exact .a [46,103,108,111,98,108,32,107,101,112] 116 (by decide) (by decide) (by decide)
. exact .a [35,32,97,32,114,101,109,97,114] 107 (by decide) (by decide) (by decide)
. exact .a [46,97,108,105,103,110,32] 50 (by decide) (by decide) (by decide)
theorem Pe(h:s<=2):kY s (qQ s) (jo s):=by
 rcases s with _|_|_|s;. exact .b [106,97,108] [[122,101,114,111],[56]] (by simp) (by decide) (by decide) (by decide)
 . exact .b [98,101,113] [[116,48],[116,49],[45,52]] (by simp) (by decide) (by decide) (by decide)
 . exact .b [97,117,105,112,99] [[116,48],[48]] (by simp) (by decide) (by decide) (by decide)
 . lia
theorem vq(h:z.length=n):ek (z++[ah y]) .e (.c n)=true:=by subst h;exact vp
theorem tn(h:z.length=n)(q:y.length<ak):cN (z++[ah y]) .e (.c n) [.a x]=some (.j,z++[ah (y++[x])]):=by subst h;unfold ah;refine J (tm (by simpa using q)) (J fz ?_);rfl
abbrev FX:List aY:=cz ee 7
abbrev nR(c s z y:Nat)(q:V)(j u:Option V)(g:V)(w:Option V):ao:=[some (.c c),some (.b (s:Int)),some (.b (z:Int)),some q,j,u,some g,some (.a (cE s)),some (.a (ci s)),some (.c y),w]
theorem Kz s:(cE s).length<=4:=(Ct s).1
theorem hM{l}:a_ z (ah (a::l)) (.b 0)=some (.a a):=by exact J (lm (z:=(a::l).map .a) rfl) rfl
theorem RN:bp z .Eq (.a a) (.a b)=some (a==b):=rfl
theorem Pg{w Q s y p}{G O}{j}{r}{t}(h:kY s r t)(q:z.length=p)(v:j.length<=900):aI aj (I w 44) w FX (nR Q s y p L G O a0 (some (ah r))) (z++[ah j])=some (.a,nR Q s y p L G O a0 (some (ah r)),z++[ah (j++[t])]):=by
 have Z:=ru;have f:j.length<ak:=au v (by decide);have k:=Kz s;induction h with|b a l b Y U W=>
 have e:1<(l.length:Int)+1:=cY.mpr (eA (List.length_pos_iff.mpr b));have T:=um (ci s) l;have u:l.length*(ci s).length<=4*3:=Nat.mul_le_mul W (DE s);have D:∀z,cN z .m (.a (ci s)) [.d (l.map .a)]=some (.a (cm (ci s) l),z):=λz=>vo rfl (au (dV U u) (by decide));have i:∀z,cZ z .Add (.a (cE s)) (.a a)=some (.a (cE s++a)):=λz=>kA (au (dV k Y) (by decide));have C:∀z,cZ z .Add (.a (cE s++a)) (.a [32])=some (.a (cE s++a++[32])):=λz=>kA (by simp;exact au (eA (dV k Y)) (by decide));have F:∀z,iV z (ah (a::l)) [.b 1] []=some (ah l):=λz=>by refine J (s' (q:=(a::l).map .a) rfl rfl rfl) ?_;exact J (Qd _ _) rfl
 have o:=tn (x:=cE s++a++[32]++cm (ci s) l) q f;exact eF (aZ (by simp [e]) ((ft (vq q)) ((N (i _)) ((N (C _)) ((H (v:=V.a (cm (ci s) l)) (Q:=z++[ah j]) (by simp [D])) ((N ((λz=>kA (by simp;lia)) _)) ((H o) rfl)))))))|d=>have m:(zx==[98,108,97,110,107])=true:=rfl;exact eF ((ft (vq q)) ((H (tn (x:=[]) q f)) rfl))|c g=>
 have o:=tn (x:=g++[58]) q f;have m:(g++[58]==[98,108,97,110,107])=false:=by refine J (propext dA) ?_;intro h;have:=aJ List.reverse h;simp at this
 exact eF ((as m) ((ft (vq q)) ((N (v:=V.a [58]) (by simp [(mA g 58)])) ((H o) rfl))))|a a x M P n=>
have o:=tn (x:=cE s++(a++[x])) q f;have m:(a++[x]==[98,108,97,110,107])=false:=by exact J (propext dA) P
have i:∀z,cZ z .Add (.a (cE s)) (.a (a++[x]))=some (.a (cE s++(a++[x]))):=λz=>kA (by simp;exact au (eA (dV k n)) (by decide));exact eF ((as m) ((ft (vq q)) ((N (v:=V.a [x]) (by simp [(mA a x)])) ((as (by simp [M])) ((N (i _)) ((H o) rfl))))))
noncomputable def dy(s:Nat)(y:Bool)(z:List an):List bc:=if y then((z.map λr=>bc.c (s,r)).take 4)++bc.d s::((z.map λr=>bc.c (s,r)).drop 4)else z.map λr=>bc.c (s,r)
noncomputable def bc.i:bc->List B|.c z=>z.2.h|.d y=>qQ y
def eX(z:List bc):V:=.d (z.map λl=>ah l.i)
theorem I3 s z:eX (z.map λr=>bc.c (s,r))=bj z:=by unfold eX bj;exact J di rfl
theorem Oi{n z}{y}(q:n<=z)(j:u.getD z .i=ah y):cP n u (.g [.c z,.h g])=some (.g [ah y,.h g]):=by exact oh (pM (nh q) j (o' (eT _) _ (kz yS y))) rfl
section
variable{c z y:Nat}
inductive GO(j:List bc)(c s z:Nat)(g:V)(w o:Option V)(u:af)(q:List bc)(d:ao)(f:af):Prop|a(m done:_)(_:d=nR c s z (u.length) (eX j) w o g m)(_:f=u++[ah (done.map bc.b)])(_:done++q=j)
theorem RZ u(b:u.length<=200)(e:∀l∈u,kY s l.i l.b){g o}(p:(ap q j).length=y)(x:i=y+1):cA (az aj (I w 44) w (ab ee 7) [some (.c c),some (.b (s:Int)),some (.b (z:Int)),some (.c y),g,o,some f,some (.a (cE s)),some (.a (ci s)),some (.c i),none] (ap q j++[eX u]++[ah []])) (λr=>r.1=.a/\∃v,r.2.1=nR c s z i (eX u) g o f v/\r.2.2=(ap q j++[.i])++[ah (u.map bc.b)]):=by
 refine J x ?_;have d:(ap q j++[V.i]).length=y+1:=by(refine dN.trans ?_);exact J p rfl
 have n:nt [3] [some (.c c),some (.b s),some (.b z),some (.c y),g,o,some f,some (.a (cE s)),some (.a (ci s)),some (.c (y+1)),none] (ap q j++[eX u]++[ah []])=some (nR c s z (y+1) (eX u) g o f none,(ap q j++[.i])++[ah []]):=by
  have a:(ap q j++[eX u]++[ah []])[y]?=some (eX u):=by(refine J (gW _ _ _) (J (iF (de p)) ?_));refine J p ?_;simp
  have h:(ap q j++[eX u]++[ah []]).set y .i=(ap q j++[.i])++[ah []]:=by(refine J (gW _ _ _) (J (List.set_append_right _ _ (de p)) ?_));refine J p ?_;simp
  refine(?_:(Ai 3 _ _).bind _=_);have Z:Ai 3 [some (.c c),some (.b s),some (.b z),some (.c y),g,o,some f,some (.a (cE s)),some (.a (ci s)),some (.c (y+1)),none] (ap q j++[eX u]++[ah []])=some (nR c s z (y+1) (eX u) g o f none,(ap q j++[eX u]++[ah []]).set y .i):=by refine(?_:((ap q j++[eX u]++[ah []])[y]?).bind _=_);exact J a rfl
  refine J Z (J h ?_);rfl
 refine(?_:cA (az aj (I w 44) w (.b _ _ _ _ _ _ _ _) _ _) _);rw [ga (z:=0) (r:=n) (o:=[eX u]) (f:=u.map λl=>ah l.i) (c:=(ap q j++[.i])++[ah []]) (fb rfl) rfl];refine gr (λl:bc=>ah l.i) (GO u c s z f g o (ap q j++[.i])) _ ?_ ?_ u _ _ ⟨none,[],by exact J d rfl,rfl,rfl⟩;. rintro Y Q⟨v,done,rfl,rfl,m⟩;rw [gX]at m;clear n e b;refine J m ?_;exact⟨rfl,v,by exact J d rfl,rfl⟩
 . rintro l t Y Q⟨v,done,rfl,rfl,m⟩;have k:done.length<=200:=by have:=aJ List.length m;rw [dN]at this;exact ac (ac (bw (List.length done) (List.length (l::t))) (de this)) b
   refine J kD (J (if_pos (by simp)) ?_);refine(?_:cA (aI aj (I w 44) w FX (nR c s z _ (eX u) g o f (some (ah l.i))) _) _);refine J (Pg (e l (by(refine J m.symm ?_);simp)) rfl (by(refine J (bU _) ?_);exact ac k (by decide))) ?_;exact⟨_,rfl,_,done++[l],rfl,by exact J fz rfl,by exact J (gW _ _ _) m⟩
theorem bf.d(j:bf c m q):bf c 0 q:=j.a (eT _)
theorem KO{w n}(h:44<n)(O:bf c (m+138) q)(Q:dr j):∃s a L o a0,s<=2/\ti L a/\bf c m a0/\I w n 44 [.c c] (ap q j)=some (.g [ah ((dy s o a).map bc.b),.h o],ap a0 j):=by
 have a1:=ru;refine bP (eG (w:=w) (n:=44) (by decide) (bf.a (k:=m+137+1) O (aH (m+137+1))) Q 3 3 rfl (by decide)) λs q1 G e1 w1=>?_;refine bP (eG (w:=w) (n:=44) (by decide) (bf.a (k:=m+136+1) w1 (aH (m+136+1))) Q 3 3 rfl (by decide)) λv C hv e2 w2=>?_;have Y:0<3+v/\3+v<=5:=⟨bl (bw (Nat.succ 0) v) (hy (by decide) v),ac (cX (eB hv) 3) (by decide)⟩;obtain⟨⟨fl,kP,a2⟩,e3,e4,k,F,a,b,e,e5,e6,e7,e8,M,hi,P,T⟩:=RX (w:=w) (s:=s) (z:=(ap C j).length) (m:=m+1) Q Y (bf.a (k:=m+1+27*(3+v)) w2 (ac (cX (nl 27 Y.right) (m+1)) (aH (m+1+27*5)))) rfl;dsimp only at e4 e7 e8;subst e4 e7 e8;have hk:k=3+v:=by have:=aJ List.length e5;rw [jM,iC]at this;exact gk e6 (qo this.symm)
 clear e6 e5;subst hk;refine av (R8 hi Y (by simp at P;exact ac P (by decide))) λL R=>?_;have i:=R.b;simp only [List.length_nil,Nat.mul_zero,Nat.add_zero]at M P;refine bP (eG (w:=w) (n:=44) (by decide) M (tT (j:=a++kc (3+v)) Q) 8 8 rfl (by decide)) λu d hu W K=>?_;rw [mG,mG]at W;have Z:=(om M.d K.d j).trans T;generalize U:(ap C j).length=y at*;have B:=oj (k:=3+v) (au Y.right (by decide));have a3:(dW (3+v)).length<=3:=B;have E:cw (3+v)=true:=ok (p:=3+v) (ac Y.2 (by decide));have S:(3+v:Nat)=3+v:=rfl;have b1:∀p,cZ p .Add (.a [46,76]) (.a (dW (3+v)))=some (.a (bb (3+v))):=λp=>kA (by simp;lia);have a4:(bb (3+v)).length<=5:=by refine J dN ?_;simp only [List.length_cons,List.length_nil];lia
 have b2:∀p,cZ p .Add (.a (bb (3+v))) (.a [58])=some (.a (bb (3+v)++[58])):=λp=>kA (by simp;lia);have S2:az aj (I w 44) w (ab ee 2) (hP c s (3+v) y b e) (ap F j++[bj a])=some (.a,hP c s (3+v) y b e,ap F j++[bj (a++kc (3+v))]):=by have ea:=Gu (q:=a) (z:=kc (3+v)) (y:=[.d [.a (bb (3+v)++[58])],.d [.a [106,97,108,114],.a [122,101,114,111],.a [48,40,114,97,41]],.d [.a [46,114,111,100,97,116,97]],.d [.a [116,97,98,108,101,58]],.d [.a [46,119,111,114,100,32,46,76,49]],.d [.a [98,108,97,110,107]]]) T (by simp;lia) rfl;exact aA ((ft (vS T)) ((N (if_pos E)) ((N (b1 _)) ((N (b2 _)) ((H ea) rfl)))))
 have S3:az aj (I w 44) w (ab ee 3) (hP c s (3+v) y b e) (ap F j++[bj (a++kc (3+v))])=some (.a,[some (.c c),some (.b s),some (.b (3+v:Nat)),some (.c y),b,e,some (.h (decide (u=7))),none,none,none,none],ap d j++[bj (a++kc (3+v))]):=by
  have:∀p,bp p .Eq (.b (u:Int)) (.b 7)=some (decide (u=7)):=λp=>by
   have hx:((u:Int)==7)=decide (u=7):=by refine J (propext lc) (J (propext ez) ?_);refine J (propext decide_eq_true_iff) ?_;lia
   refine HY.trans (J hx ?_);rfl
  exact aA ((H W) (by simp [ee,W,this]))
 clear W;generalize a5:a++kc (3+v)=g at*;generalize PY:decide (u=7)=o at*;have S4:az aj (I w 44) w (ab ee 4) [some (.c c),some (.b (s:Int)),some (.b ((3+v:Nat):Int)),some (.c y),b,e,some (.h o),none,none,none,none] (ap d j++[bj g])=some (.a,[some (.c c),some (.b (s:Int)),some (.b ((3+v:Nat):Int)),some (.c y),b,e,some (.h o),none,none,none,none],ap d j++[eX (dy s o g)]):=by clear PY;clear S3;induction o with|false=>have:eX (dy s false g)=bj g:=I3 s g;exact J this (eF rfl)|true=>
have he:eX (dy s true g)=.d ((g.map λr=>ah r.h).take 4++ah (qQ s)::(g.map λr=>ah r.h).drop 4):=by unfold eX dy;refine J (if_pos rfl) (J fz ?_);refine J List.map_take (J dU ?_);refine J List.map_drop (J di ?_);rfl
have f:∀x,x=ah (qQ s)->cN (ap d j++[bj g]) .u (.c y) [.b 4,x]=some (.j,ap d j++[eX (dy s true g)]):=by rintro x rfl;refine J he ?_;have:=Bh (y:=ap d j) (z:=g.map λr=>ah r.h) (v:=ah (qQ s)) (k:=4) ⟨by decide,by exact J (bU _) (au i (by decide))⟩;rw [Z]at this;exact this
clear he S2 e3 e1;revert f;refine nV G ?_ ?_ ?_;. intro f;have f:=f (.d [.a [106,97,108],.a [122,101,114,111],.a [56]]) rfl;exact eF ((ft (vT Z)) ((H f) rfl))
. intro f;have f:=f (.d [.a [98,101,113],.a [116,48],.a [116,49],.a [45,52]]) rfl;exact eF ((ft (vT Z)) ((H f) rfl))
. intro f;have f:=f (.d [.a [97,117,105,112,99],.a [116,48],.a [48]]) rfl;exact eF ((ft (vT Z)) ((H f) rfl))
 have S5:∀p,az aj (I w 44) w (ab ee 5) [some (.c c),some (.b (s:Int)),some (.b ((3+v:Nat):Int)),some (.c y),b,e,some (.h o),none,none,none,none] p=some (.a,[some (.c c),some (.b (s:Int)),some (.b ((3+v:Nat):Int)),some (.c y),b,e,some (.h o),some (.a (cE s)),some (.a (ci s)),none,none],p):=λp=>by refine nV G ?_ ?_ ?_<;>exact aA rfl
 have Qc:(ap d j++[eX (dy s o g)]).length=y+1:=by(refine dN.trans ?_);exact J Z rfl
 have S6:az aj (I w 44) w (ab ee 6) [some (.c c),some (.b (s:Int)),some (.b ((3+v:Nat):Int)),some (.c y),b,e,some (.h o),some (.a (cE s)),some (.a (ci s)),none,none] (ap d j++[eX (dy s o g)])=some (.a,[some (.c c),some (.b (s:Int)),some (.b ((3+v:Nat):Int)),some (.c y),b,e,some (.h o),some (.a (cE s)),some (.a (ci s)),some (.c (y+1)),none],ap d j++[eX (dy s o g)]++[ah []]):=by have:ah []=.d []:=rfl;refine J this (J Qc.symm ?_);exact aA rfl
 have X:∀l∈dy s o g,kY s l.i l.b:=by
  have A:∀l∈g.map (λr=>bc.c (s,r)),kY s l.i l.b:=λl t=>by refine D (cG.mp t) λr hr z1=>?_;subst z1;exact Pf s r (R.d r hr)
  intro l t;unfold dy at t;split at t
  . refine(cr.mp t).elim (λt=>?_) λt=>?_;. exact A l (sO t)
    . refine dF t ?_ λt=>?_;. exact Pe (eB G)
      . exact A l (List.mem_of_mem_drop t)
  . exact A l t
 have mU:(dy s o g).length<=200:=by
  unfold dy;split;. simp;exact J (wy _ _) (ac (nf i) (by decide))
  . simp;exact ac i (by decide)
 obtain⟨⟨fl,CD,a6⟩,r1,r2,bD,r3,r4⟩:=RZ (w:=w) (c:=c) (s:=s) (z:=3+v) (j:=j) (y:=y) (i:=y+1) (dy s o g) mU X (f:=.h o) (g:=b) (o:=e) Z rfl;dsimp only at r2 r3 r4;subst r2 r3 r4;refine(pe s g L o d ⟨eB G,R,K,?_⟩);have a7:(ap q j).length=y:=by exact J U.symm (om w2.d O.d j)
 have Qd:(ap d j++[V.i]).length=y+1:=by(refine dN.trans ?_);exact J Z rfl
 refine t_ (f:=B5) h rfl (by decide) rfl rfl O K Q (v:=.g [.c (y+1),.h o]) (y:=[.i,ah ((dy s o g).map bc.b)]) ?_ (Oi (by lia) ?_)
 . refine aS (s:=ab ee 0) (j:=ee.drop 1) (z:=hP c s (3+v) y none none) (y:=ap C j++[bj mT]) ?_ ?_;. exact J U.symm (aA ((H e1) ((H e2) rfl)))
   refine aS (s:=ab ee 1) (j:=ee.drop 2) e3 (aS (s:=ab ee 2) (j:=ee.drop 3) S2 ?_);refine aS (s:=ab ee 3) (j:=ee.drop 4) S3 (aS (s:=ab ee 4) (j:=ee.drop 5) S4 ?_);refine aS (s:=ab ee 5) (j:=ee.drop 6) (S5 _) (aS (s:=ab ee 6) (j:=ee.drop 7) S6 ?_);exact aS (s:=ab ee 7) (j:=ee.drop 8) r1 (aK (by simp [ee]))
 . have:ap d j++[.i,ah ((dy s o g).map bc.b)]=(ap d j++[.i])++[ah ((dy s o g).map bc.b)]:=by simp
   refine J this ?_;(refine J hY ?_);refine J (aN Qd) ?_;simp
end
abbrev ht:=List (aD×aD)
def kh(v:Int):Int:=if 2147483648<=v then v-4294967296 else v
noncomputable def uT:mW->Int->Int->Int|.a,x,y=>x+y|.c,x,y=>x-y|.f,x,y=>PySem.Builtin.bitXor x y|.b,x,y=>if x<y then 1 else 0|.e,x,y=>x*y
noncomputable def fG:hU->Int->Int->Bool|.c,x,y=>x==y|.e,x,y=>!(x==y)|.d,x,y=>decide (kh x<kh y)|.f,x,y=>!decide (kh x<kh y)|.h,x,y=>decide (x<y)|.g,x,y=>!decide (x<y)
noncomputable def eS.d:eS->Nat|.c=>2|.b=>9|.e=>9|.g=>2|.h=>2|.f=>2
noncomputable def eS.i:eS->Int|.c=>0|.b=>4|.e=>0|.g=>4|.h=>8|.f=>1
noncomputable def aG(b:List Int)(r:Nat):Int:=b.getD r 0
def cL(m:eS)(b:List Int):Int:=(aG b m.d+m.i)%4294967296
noncomputable def CY(l:B):Int:=7000+3000*(Dx (l.drop 2):Int)
def zU(l:B):Int:=(CY l+2048)/4096
def CJ(l:B):Int:=CY l-4096*zU l
theorem IK w n(h:45<n)(i:fl)z:I w n 45 [.a i.b] z=some (.b i.a,z):=by refine J (dx h) ?_;induction i<;>kernel_rfl
theorem zV(h:jX.contains l=true):l=bb 1\/l=bb 2\/l=bb 3\/l=bb 4\/l=bb 5:=by
 have:=hZ.mp h;simp only [jX,List.mem_cons,List.not_mem_nil,or_false]at this;have z:bb 1=[46,76,49]:=by decide+kernel
 have y:bb 2=[46,76,50]:=by decide+kernel
 have q:bb 3=[46,76,51]:=by decide+kernel
 have j:bb 4=[46,76,52]:=by decide+kernel
 have u:bb 5=[46,76,53]:=by decide+kernel
 refine J z (J y ?_);refine J q (J j ?_);exact J u this
theorem IL w n(h:45<n)l(y:jX.contains l=true)z:I w n 45 [.a ([37,104,105,40]++l++[41])] z=some (.b (zU l),z):=by refine J (dx h) ?_;rcases zV y with rfl|rfl|rfl|rfl|rfl<;>kernel_rfl
theorem H0 w n(h:45<n)l(y:jX.contains l=true)z:I w n 45 [.a ([37,108,111,40]++l++[41])] z=some (.b (CJ l),z):=by refine J (dx h) ?_;rcases zV y with rfl|rfl|rfl|rfl|rfl<;>kernel_rfl
@[simp]theorem Si:aj 10=some (.b 4294967296):=rfl
theorem Ij w n(h:47<n)v y:I w n 47 [.b v] y=some (.b (kh v),y):=by
 refine ct (f:=zZ) h rfl (by decide) rfl rfl rfl (z:=[]) (v:=.b (kh v)) ?_ rfl;unfold kh;by_cases z:2147483648<=v;. exact J (if_pos z) (aK ((aZ (em z)) rfl))
 . exact J (if_neg z) (aK (as (by simp [zZ,Bw,z]) rfl))
def nD(x:Int):Prop:=0<=x/\x<4294967296
theorem xg(h:nD x):cw x=true:=by
 have z:2^32<=2^200:=yg (by decide) (by decide);have q:2^32=4294967296:=by decide
 have y:x.natAbs<2^32:=by have:=h.1;have:=h.2;lia
 exact em (bl y z)
theorem It w n(h:48<n)o x y(j:nD x)(u:nD y)q:I w n 48 [.a o.d,.b x,.b y] q=some (.b (uT o x y),q):=by refine ct (f:=BX) h rfl (by decide) rfl rfl rfl (z:=[]) (v:=.b (uT o x y)) ?_ rfl;have g:=xg j;have d:=xg u;induction o with
|a=>exact aK rfl|c=>exact aK rfl|f=>exact aK rfl|b=>
have e:(some (.b (.b (if decide (x<y)=true then 1 else 0)),[],[]):dc)=some (.b (.b (uT .b x y)),[],[]):=by
 refine aJ (λz=>some (eM.b (V.b z),[],[])) ?_;by_cases h:x<y;. exact(if_pos (em h)).trans (if_pos h).symm
 . exact(if_neg (by rw [e' h];decide)).trans (if_neg h).symm
exact aK e|e=>exact aK ((N (pt g d)) rfl)
theorem Ix w n(j:49<n)k x y z:I w n 49 [.a k.a,.b x,.b y] z=some (.h (fG k x y),z):=by
 refine ct (f:=BZ) j rfl (by decide) rfl rfl rfl (z:=[]) (v:=.h (fG k x y)) ?_ rfl;have q:=λv z=>Ij w 49 (by decide) v z;have T:∀b:Bool,(some (.b (.h (b==true)),[],[]):dc)=some (.b (.h b),[],[]):=λb=>by induction b<;>rfl
 have F:∀b:Bool,(some (.b (.h (b==false)),[],[]):dc)=some (.b (.h !b),[],[]):=λb=>by induction b<;>rfl
 induction k with|c=>exact aK (T (x==y))|e=>exact aK (F (x==y))|d=>exact aK ((H (q x _)) ((H (q y _)) (T (decide (kh x<kh y)))))|f=>exact aK ((H (q x _)) ((H (q y _)) (F (decide (kh x<kh y)))))|h=>exact aK (T (decide (x<y)))|g=>exact aK (F (decide (x<y)))
noncomputable def gQ:ht:=match aj 9 with|some (.e d)=>d|_=>[]
theorem xT:aj 9=some (.e gQ):=rfl
theorem iZ(r:cT):bD gQ (.a r.b)=some (.b (r.a:Int)):=by induction r<;>kernel_rfl
theorem kb(r:cT):r.a<32:=by induction r<;>decide
structure oR(b:List Int):Prop where
a:b.length=32
c:∀r,nD (aG b r)d:aG b 0=0
theorem OO{b:List Int}{r:Nat}(z:b.length=32)(h:r<32):bM (b.map V.b) (r:Int)=some (.b (aG b r)):=by refine J (ik _ _) (J hw ?_);unfold aG;refine J hY ?_;refine J (cH (bl h (de (aN z)))) ?_;rfl
theorem Dq{z}{b}{r:Nat}{y}(q:aO z (.c y)=ir b)(j:b.length=32)(h:r<32):a_ z (.c y) (.b (r:Int))=some (.b (aG b r)):=by refine J (lm (z:=b.map V.b) q) (J (OO j h) ?_);rfl
theorem Q'(m:eS):∃x f g,ce m.a none (some (-1))=x/\cc 40 x=[f,g]/\ls f=some m.i/\bD gQ (.a g)=some (.b (m.d:Int)):=by
 induction m;. exact⟨[48,40,115,112],[48],[115,112],by kernel_rfl,by kernel_rfl,by kernel_rfl,by kernel_rfl⟩
 . exact⟨[52,40,115,49],[52],[115,49],by kernel_rfl,by kernel_rfl,by kernel_rfl,by kernel_rfl⟩
 . exact⟨[48,40,115,49],[48],[115,49],by kernel_rfl,by kernel_rfl,by kernel_rfl,by kernel_rfl⟩
 . exact⟨[52,40,115,112],[52],[115,112],by kernel_rfl,by kernel_rfl,by kernel_rfl,by kernel_rfl⟩
 . exact⟨[56,40,115,112],[56],[115,112],by kernel_rfl,by kernel_rfl,by kernel_rfl,by kernel_rfl⟩
 . exact⟨[49,40,115,112],[49],[115,112],by kernel_rfl,by kernel_rfl,by kernel_rfl,by kernel_rfl⟩
theorem Ha(m:eS):m.d<32:=by induction m<;>decide
theorem js{z}{g}{r:Nat}(h:bD gQ (.a g)=some (.b (r:Int))):a_ z (.e gQ) (.a g)=some (.b (r:Int)):=by refine J (sY (d:=gQ) rfl) (J h ?_);rfl
theorem Ba w n(h:50<n)m(y:aO z (.c q)=ir b)(j:b.length=32)(u:eC z.length z=true):I w n 50 [.a m.a,.c q] z=some (.b (cL m b),z):=by
 refine zM (f:=z') h rfl (by decide) rfl rfl u (v:=.b (cL m b)) ?_ rfl;refine hg (Q' m) λx f g o d c=>?_;refine ae c λp t=>?_;have r:=λz=>js (z:=z) t;have v:=Dq y j (Ha m);have k:cL m b=(aG b m.d+m.i).fmod 4294967296:=by exact J (pj _) rfl
 refine J k ?_;simp [z',Bx,o,d,p,r,v,xT]
structure GC(e:aD×aD):Prop where b:∃a v:Int,e=(.b a,.b v)/\0<=v/\v<256
def mk(m:ht):Prop:=∀e∈m,GC e
def kC(m:ht)(a:Int)(k:Nat):Int:=match(bD m (.b ((a+(k:Int))%dg))).getD (.b ((a+(k:Int))*7%251))with|.b b=>b|_=>0
noncomputable def he(m:ht)(a:Int):Nat->Int|0=>0|n+1=>he m a n+kC m a n*256^n
theorem Jq{m:ht}{k v}(h:bD m k=some v):(k,v)∈m:=by
 unfold bD at h;refine D (fI.mp h) λe z y=>?_;refine J y.symm ?_;have q:=yb z;have j:=List.find?_some z;have:e.1=k:=by simpa using j
 exact J (aN this) q
theorem G0(h:mk m)a(k:Nat):((bD m (.b ((a+(k:Int))%dg))).getD (.b ((a+(k:Int))*7%251))=.b (kC m a k))/\0<=kC m a k/\kC m a k<256:=by unfold kC;induction z:bD m (.b ((a+k)%dg))with|none=>refine⟨rfl,?_⟩;refine(?_:0<=(a+(k:Int))*7%251/\(a+(k:Int))*7%251<256);lia|some v=>refine bP ((h _ (Jq z)).b) λx y e q j=>?_;have:v=.b y:=aJ Prod.snd e;clear e z;refine J this ?_;exact⟨rfl,q,j⟩
theorem KW(h:mk m)a:∀n,oP m a n=some (he m a n):=by intro z;induction z with|zero=>exact rfl|succ n y=>refine(?_:(oP m a n).bind (λt=>(V.f ((bD m (.b ((a+(n:Int))%dg))).getD (.b ((a+(n:Int))*7%251)))).l.map λb=>t+b*256^n)=_);refine J (y) ?_;exact J (G0 h a n).1 rfl
theorem A4 w n(h:51<n){z}{c}{m:ht}(y:aO z (.c c)=.e m)(q:mk m)a(k:Nat)(j:k<=4):I w n 51 [.c c,.b a,.b (k:Int)] z=some (.b (he m a k),z):=by refine J (dx h) ?_;refine(?_:(aO z (.c c)).r.bind _=_);refine J y ((if_pos ⟨fw k,g_.mpr j⟩).trans ?_);exact J (KW q _ _) rfl
noncomputable def gx(m:ht)(a v:Int):Nat->ht|0=>m|k+1=>fh (gx m a v k) (.b ((a+(k:Int))%4294967296)) (.b (v/256^k%256))
theorem IY{k v}(h:mk m)(y:0<=v/\v<256):mk (fh m (.b k) (.b v)):=by induction m with|nil=>intro e z;exact J (bF.mp z) ⟨k,v,rfl,y.1,y.2⟩|cons x m q=>
intro e z;rw [oe]at z;split at z
. refine dF z ?_ λz=>?_;. exact⟨k,v,rfl,y.1,y.2⟩
  . exact h e (.tail _ z)
. refine dF z ?_ λz=>?_;. exact h _ (.head _)
  . exact q (λe z=>h e (.tail _ z)) e z
theorem IW(m:ht)k v:(fh m k v).length<=m.length+1:=by induction m with|nil=>exact aH _|cons x m z=>
refine J oe ?_;split;. exact e_ _
. exact nf z
theorem Rb(h:mk m)a v:∀k,mk (gx m a v k):=by intro z;induction z with|zero=>exact h|succ k y=>exact IY (y) ⟨ku _ (by decide),m' _ (by decide)⟩
theorem Fw m a v:∀k,(gx m a v k).length<=m.length+k:=by intro z;induction z with|zero=>exact aH _|succ k y=>have:=y;have:=IW (gx m a v k) (.b ((a+k)%4294967296)) (.b (v/256^k%256));refine(?_:(fh _ _ _).length<=_);lia
noncomputable def iA.a:iA->Nat|.c=>4|.e=>2|.d=>1
def ea(i:aQ)(b:List Int)(m:ht):Int:=match i with|.d _ a n=>aG b a.a+n.a|.i _ n=>n.a*4096|.g o _ x y=>uT o (aG b x.a) (aG b y.a)|.c ..=>0|.f w _ z=>(match w with|.a=>he m (cL z b) 4|.d=>he m (cL z b) 1|.c=>if 127<he m (cL z b) 1 then he m (cL z b) 1-256 else he m (cL z b) 1)|.b ..=>0|.e _=>0|.k=>0|.j=>0|.l=>0|.o _=>5|.p _=>aG b 6|.n l=>zU l*4096|.m l=>aG b 6+CJ l
theorem Fg:ea (.f .c d z) b m=if 127<he m (cL z b) 1 then he m (cL z b) 1-256 else he m (cL z b) 1:=rfl
def dZ:aQ->Nat|.d d _ _=>d.a|.i d _=>d.a|.g _ d _ _=>d.a|.c ..=>0|.f _ d _=>d.a|.b ..=>0|.e _=>0|.k=>0|.j=>0|.l=>0|.o d=>d.a|.p d=>d.a|.n _=>6|.m _=>6
def dY(b:List Int)(r:Nat)(v:Int):List Int:=(b.set r (v%4294967296)).set 0 0
structure dM where
a:List Int
c:ht
b:List V
def b_(i:aQ)(s:dM):dM:=match i with|.d ..=>{s with a:=dY s.a (dZ i) (ea i s.a s.c)}|.i ..=>{s with a:=dY s.a (dZ i) (ea i s.a s.c)}|.g ..=>{s with a:=dY s.a (dZ i) (ea i s.a s.c)}|.c w v z=>{s with c:=gx s.c (cL z s.a) (aG s.a v.a) w.a,b:=s.b++[.g [.b (cL z s.a),.b (w.a:Int),.b (aG s.a v.a%256^w.a)]]}|.f ..=>{s with a:=dY s.a (dZ i) (ea i s.a s.c)}|.b ..=>{s with a:=dY s.a (dZ i) (ea i s.a s.c)}|.e ..=>{s with a:=dY s.a (dZ i) (ea i s.a s.c)}|.k ..=>{s with a:=dY s.a (dZ i) (ea i s.a s.c)}|.j ..=>{s with a:=dY s.a (dZ i) (ea i s.a s.c)}|.l ..=>{s with a:=dY s.a (dZ i) (ea i s.a s.c)}|.o ..=>{s with a:=dY s.a (dZ i) (ea i s.a s.c)}|.p ..=>{s with a:=dY s.a (dZ i) (ea i s.a s.c)}|.n ..=>{s with a:=dY s.a (dZ i) (ea i s.a s.c)}|.m ..=>{s with a:=dY s.a (dZ i) (ea i s.a s.c)}
def ba(s:dM):af:=[ir s.a,.e s.c,.d s.b]
noncomputable def fU:aQ->Bool|.d ..=>true|.i ..=>true|.g ..=>true|.c ..=>true|.f ..=>true|.b ..=>false|.e _=>false|.k=>false|.j=>false|.l=>false|.o _=>true|.p _=>true|.n _=>true|.m _=>true
theorem pr{v}(z:b.length=32)(y:r<32):aG (b.set r v) k=if k=r then v else aG b k:=by
 unfold aG;refine J hY ?_;refine J hY ?_;refine J List.getElem?_set ?_;by_cases h:r=k;. subst h;refine J (if_pos rfl) (J (if_pos rfl) ?_);exact J (if_pos (bl y (de (aN z)))) rfl
 . refine J (if_neg h) (J (if_neg (λe=>h e.symm)) ?_);rfl
theorem mn{v}(z:b.length=32)(y:r<32):aG (dY b r v) k=if k=0 then 0 else if k=r then v%4294967296 else aG b k:=by refine J (pr (by(refine J fZ ?_);exact z) (by decide)) ?_;exact J (pr z y) rfl
theorem A2{v}(h:oR b)(z:r<32):oR (dY b r v):=by
 refine⟨by refine J fZ (J fZ ?_);exact h.a,λk=>?_,?_⟩
 . refine J (mn h.a z) ?_;split;. exact⟨by decide,by decide⟩
   . split;. exact⟨ku _ (by decide),m' _ (by decide)⟩
     . exact h.c k
 . refine J (mn h.a z) (J (if_pos rfl) ?_);rfl
structure df(k:Nat)(s:dM):Prop where
a:oR s.a
c:mk s.c
e:s.c.length<=4*k
d:s.b.length<=k
b:c_ 0 s.b=true
theorem mx(z:s.a.length=32){r:Nat}(y:r<32):a_ (ba s) (.c 0) (.b (r:Int))=some (.b (aG s.a r)):=Dq rfl z y
theorem qd(z:s.a.length=32){r:Nat}{x}(y:r<32):eY (ba s) (.c 0) (.b (r:Int)) (.b x)=some (ba {s with a:=s.a.set r x}):=by rw [PX (y:=s.a.map .b) rfl ⟨fw r,by rw [bU];exact cY.mpr (bl y (de (aN z)))⟩];refine(?_:some (_::_)=some (_::_));unfold ir;dsimp only;rw [List.map_set];rfl
theorem Nh{k v}(z:s.c.length<ak):eY (ba s) (.c 1) (.b k) (.b v)=some (ba {s with c:=fh s.c (.b k) (.b v)}):=by exact(lu (d:=s.c) rfl rfl z).trans rfl
theorem DM{v}(z:s.b.length<ak):cN (ba s) .e (.c 2) [v]=some (.j,ba {s with b:=s.b++[v]}):=by exact(nW (z:=s.b) rfl z).trans rfl
theorem vs(h:df k s):eC 3 (ba s)=true:=by exact cy (rc _ _) (cy rfl (cy (o' (eT _) _ h.b) rfl))
theorem A0{z}{k:Nat}(h:k<=4):cZ z .Pow (.b 256) (.b (k:Int))=some (.b (256^k)):=by
 refine(?_:(if(256:Int)=256&&decide (0<=(k:Int))&&decide ((k:Int)<=4)then some (V.b ((256:Int)^(k:Int).toNat))else none)=_);rw [if_pos];. rfl
 . simp;exact g_.mpr h
theorem Eo(h:k<=4):cw ((256:Int)^k)=true/\(256:Int)^k≠0/\(0:Int)<=256^k:=by
 have:k=0\/k=1\/k=2\/k=3\/k=4:=by lia
 clear h;rcases this with rfl|rfl|rfl|rfl|rfl<;>decide
theorem Be{w n k}{j}(h:k<n)(c:hG[k]?=some (some f))(m:k≠0/\k≠51)(p:f.e=1)(t:j.length=f.a)(u:g=.a\/g=.b .j)(e:aI aj (I w k) w f.c (cu f j) y=some (g,r,z))(q:z.length=y.length)(o:eC y.length z=true):I w n k j y=some (.j,z):=by
 refine(u_ h c m).trans ((if_pos t).trans ?_);refine J p ?_;unfold nu;unfold cu at e;refine J e ?_;have d:z.take y.length=z:=by refine J (aN q) (J sP ?_);rfl
 clear e;rcases u with rfl|rfl;. refine(?_:(if eC y.length (z.take y.length)=true then(cP y.length z .j).map λv=>(v,z.take y.length)else none)=_);refine J d (J (if_pos o) ?_);rfl
 . refine(?_:(if eC y.length (z.take y.length)=true then(cP y.length z .j).map λv=>(v,z.take y.length)else none)=_);refine J d (J (if_pos o) ?_);rfl
abbrev ec(i:aQ)(z y q j u:Option V):ao:=[some (ah (i.a::i.h)),some (.c 0),some (.c 1),some (.c 2),z,y,q,j,u]
noncomputable def mg:ht:=[(.a [115,119],.b 4),(.a [115,104],.b 2),(.a [115,98],.b 1)]
theorem zB w n(h:35<n)z:I w n 35 [] z=some (.e mg,z):=G5 w n h z
theorem Fx(o:iA):bD mg (.a o.b)=some (.b (o.a:Int)):=by induction o<;>kernel_rfl
theorem rY(o:iA):o.a<=4:=by induction o<;>decide
theorem rV{l}:a_ z (ah (a::b::l)) (.b 1)=some (.a b):=by exact(lm (z:=(a::b::l).map .a) rfl).trans rfl
theorem kd{l}:a_ z (ah (a::b::c::l)) (.b 2)=some (.a c):=by exact(lm (z:=(a::b::c::l).map .a) rfl).trans (OM _ _ _ _)
theorem rW{l}:a_ z (ah (a::b::c::d::l)) (.b 3)=some (.a d):=by exact(lm (z:=(a::b::c::d::l).map .a) rfl).trans (ON _ _ _ _ _)
inductive Ao(o:iA)(v:cT)(y:eS)(s:dM)(z:List Nat)(q:ao)(j:af):Prop|a(k u:_)(_:z=(List.range o.a).drop k)(_:k<=o.a)(_:q=ec (.c o v y) (some (.a o.b)) (some (.b (o.a:Int))) (some (.b (aG s.a v.a))) (some (.b (cL y s.a))) u)(_:j=ba {s with c:=gx s.c (cL y s.a) (aG s.a v.a) k})
abbrev jQ:List aY:=w_ (ab eN 1)
theorem Ps{w}(g:df k s)(hk:k<=1000)o v y:∃p,aI aj (I w 52) w eN (ec (.c o v y) none none none none none) (ba s)=some (.b .j,p,ba (b_ (.c o v y) s)):=by
 have L:ak=1000000:=rfl;have D:=g.e;have C:=g.d;have F:=g.a.c v.a;have M:=xg F;have Z:=zB w 52 (by decide);have P:=Ba w 52 (by decide) y (z:=ba s) (q:=0) (b:=s.a) rfl g.a.a (vs g);have T:=mx g.a.a (kb v);have R:=λq=>js (z:=q) (iZ v);have t:(bD mg (.a o.b)).isSome=true:=by exact J (Fx _) rfl
 refine bk (Eo (rY o)) λK B E=>?_;have S:cA (az aj (I w 52) w (ab jQ 1) (ec (.c o v y) (some (.a o.b)) (some (.b o.a)) (some (.b (aG s.a v.a))) (some (.b (cL y s.a))) none) (ba s)) (λr=>r.1=.a/\Ao o v y s [] r.2.1 r.2.2):=by
  refine J (ga (m:=[]) (z:=1) (y:=ec (.c o v y) (some (.a o.b)) (some (.b o.a)) (some (.b (aG s.a v.a))) (some (.b (cL y s.a))) none) (q:=ba s) (d:=ec (.c o v y) (some (.a o.b)) (some (.b o.a)) (some (.b (aG s.a v.a))) (some (.b (cL y s.a))) none) (j:=ba s) (c:=ba s) (o:=[.b o.a]) (f:=(List.range o.a).map λi:Nat=>V.b i) rfl (fb rfl) (rE (by have:=rY o;exact ac this (by decide)))) (gr (λi:Nat=>V.b (i:Int)) (Ao o v y s) _ ?_ ?_ (List.range o.a) _ _ ⟨0,none,rfl,eT (Mp.iA.a o),rfl,rfl⟩);. rintro X q h;exact⟨rfl,h⟩
  . rintro a Y X q⟨Q,d,j,c,rfl,rfl⟩;refine ae (zc j) λA z2=>?_;subst A;refine ae z2 λu b=>?_;have f:=rY o;refine bk (Eo (k:=a) (ac c f)) λq1 q2 q3=>?_;have e:=λq=>A0 (z:=q) (k:=a) (ac c f);have a0:=Fw s.c (cL y s.a) (aG s.a v.a) a;have U:=Nh (s:={s with c:=gx s.c (cL y s.a) (aG s.a v.a) a}) (k:=(cL y s.a+a)%4294967296) (v:=aG s.a v.a/256^a%256) (by lia);have l:∀x:Int,x.fdiv (256^a)=x/256^a:=λx=>yh _ q3;have m:∀x:Int,x.fmod 256=x%256:=λx=>jL _ (by decide);have a1:cw 256=true:=by decide
    refine⟨(.a,ec (.c o v y) (some (.a o.b)) (some (.b o.a)) (some (.b (aG s.a v.a))) (some (.b (cL y s.a))) (some (.b (a:Int))),ba {s with c:=gx s.c (cL y s.a) (aG s.a v.a) (a+1)}),?_,a+1,_,u,b,rfl,rfl⟩;refine J kD (J (if_pos (by simp)) ?_);have hd:∀q,cZ q .FloorDiv (.b (aG s.a v.a)) (.b (256^a))=some (.b (aG s.a v.a/256^a)):=λq=>(AY q2 q1).trans (aJ (λz=>some (V.b z)) (l _));rw [<-m,<-pj]at U;exact eF ((N (e _)) ((N (hd _)) ((je U) (by rw [pj,m];rfl))))
 obtain⟨⟨fl,cp,a2⟩,e1,G,Q,d,e3,j,W,O⟩:=S;dsimp only at G W O;subst G W O;obtain rfl:Q=o.a:=by have:=aJ List.length e3;rw [jM,iC]at this;exact gk j (qo this.symm)
 have qP:=DM (s:={s with c:=gx s.c (cL y s.a) (aG s.a v.a) o.a}) (v:=.g [.b (cL y s.a),.b (o.a:Int),.b (aG s.a v.a%256^o.a)]) (by lia);have e:=λq=>A0 (z:=q) (k:=o.a) (rY o);have n:∀x:Int,x.fmod (256^o.a)=x%256^o.a:=λx=>jL _ E;have PT:aI aj (I w 52) w jQ (ec (.c o v y) (some (.a o.b)) none none none none) (ba s)=some (.b .j,ec (.c o v y) (some (.a o.b)) (some (.b (o.a:Int))) (some (.b (aG s.a v.a))) (some (.b (cL y s.a))) d,ba (b_ (.c o v y) s)):=by
  have c0:az aj (I w 52) w (ab jQ 0) (ec (.c o v y) (some (.a o.b)) none none none none) (ba s)=some (.a,ec (.c o v y) (some (.a o.b)) (some (.b (o.a:Int))) (some (.b (aG s.a v.a))) (some (.b (cL y s.a))) none,ba s):=by exact aA ((H (Z _)) ((N ((sY (d:=mg) rfl).trans (by exact J (Fx o) rfl):a_ (ba s) (.e mg) (.a o.b)=some (.b (o.a:Int)))) ((N (R _)) ((N T) ((H P) rfl)))))
  have c2:az aj (I w 52) w (ab jQ 2) (ec (.c o v y) (some (.a o.b)) (some (.b (o.a:Int))) (some (.b (aG s.a v.a))) (some (.b (cL y s.a))) d) (ba {s with c:=gx s.c (cL y s.a) (aG s.a v.a) o.a})=some (.a,ec (.c o v y) (some (.a o.b)) (some (.b (o.a:Int))) (some (.b (aG s.a v.a))) (some (.b (cL y s.a))) d,ba (b_ (.c o v y) s)):=by have hm:∀q,cZ q .Mod (.b (aG s.a v.a)) (.b (256^o.a))=some (.b (aG s.a v.a%256^o.a)):=λq=>(zw B K).trans (aJ (λz=>some (V.b z)) (n _));exact aA ((N (e _)) ((N (hm _)) ((H qP) rfl)))
  have Qu:jQ=ab jQ 0::ab jQ 1::ab jQ 2::ab jQ 3::[]:=rfl;refine J Qu (J cU ?_);refine J c0 ?_;refine fg.trans (cU.trans ?_);refine J e1 (J fg ?_);refine J cU (J c2 ?_);refine J fg ?_;exact eF rfl
 refine⟨ec (.c o v y) (some (.a o.b)) (some (.b (o.a:Int))) (some (.b (aG s.a v.a))) (some (.b (cL y s.a))) d,?_⟩;have d0:az aj (I w 52) w (ab eN 0) (ec (.c o v y) none none none none none) (ba s)=some (.a,ec (.c o v y) (some (.a o.b)) none none none none,ba s):=by exact aA rfl
 have d1:az aj (I w 52) w (ab eN 1) (ec (.c o v y) (some (.a o.b)) none none none none) (ba s)=aI aj (I w 52) w jQ (ec (.c o v y) (some (.a o.b)) none none none none) (ba s):=by refine(?_:az aj (I w 52) w (.a _ jQ _ _) _ _=_);simp [Z,t,Et]
 have zX:eN=ab eN 0::ab eN 1::eN.drop 2:=rfl;refine J zX (J cU ?_);refine J d0 (J fg ?_);refine J cU (J d1 ?_);refine J PT ?_;rfl
noncomputable def gF:aQ->Bool|.d ..=>false|.i ..=>false|.g ..=>false|.c ..=>true|.f ..=>false|.b ..=>false|.e _=>false|.k=>false|.j=>false|.l=>false|.o _=>false|.p _=>false|.n _=>false|.m _=>false
theorem OG(z:fU y=true)(h:gF y=false):(bD mg (.a y.a)).isSome=false:=by induction y with|g q=>clear h z;induction q<;>kernel_rfl|f q=>clear h z;induction q<;>kernel_rfl|c=>exact am h.symm|b=>exact am z|d=>kernel_rfl|i=>kernel_rfl|n=>kernel_rfl|m=>kernel_rfl|o=>kernel_rfl|p=>kernel_rfl|e=>exact am z|k=>exact am z|j=>exact am z|l=>exact am z
theorem zd(y:fU q=true)(h:gF q=false):∃(z:cT)(u:List B),q.h=z.b::u/\z.a=dZ q:=by induction q with|d z a g=>exact(ax z _ ⟨rfl,rfl⟩)|i z g=>exact(ax z _ ⟨rfl,rfl⟩)|g w z a f=>exact(ax z _ ⟨rfl,rfl⟩)|f w z t=>exact(ax z _ ⟨rfl,rfl⟩)|o z=>exact(ax z _ ⟨rfl,rfl⟩)|p z=>exact(ax z _ ⟨rfl,rfl⟩)|n u=>exact(ax .d _ ⟨rfl,rfl⟩)|m u=>exact(ax .d _ ⟨rfl,rfl⟩)|c=>exact am h.symm|b=>exact am y|e=>exact am y|k=>exact am y|j=>exact am y|l=>exact am y
theorem vH:bD gQ (.a [116,49])=some (.b 6):=by kernel_rfl
abbrev kZ(z:V)(t:B)(y q:Option V):ao:=[some z,some (.c 0),some (.c 1),some (.c 2),some (.a t),none,y,q,none]
theorem Es(j:eD (.a t) [.a [108,119],.a [108,98],.a [108,98,117]]=some false)(u:∀y,bp y .Eq (.a t) (.a [108,117,105])=some true)(g:∀y,a_ y q (.b 2)=some (.a m))(o:∀y,d 45 [.a m] y=some (.b z,y))(c:cw z=true):az aj d w (ab eN 2) (kZ q t none none) y=some (.a,kZ q t (some (.b (z*4096))) none,y):=by
 have f:cw 4096=true:=by decide
 exact aA ((as (ag j)) ((aZ (ag (u []))) ((N (g _)) ((H (o _)) ((N (pt c f)) rfl)))))
theorem PB(j:eD (.a t) [.a [108,119],.a [108,98],.a [108,98,117]]=some false)(u:∀y,bp y .Eq (.a t) (.a [108,117,105])=some false)(g:∀y,bp y .Eq (.a t) (.a [108,105])=some true)(o:∀y,a_ y q (.b 2)=some (.a m))(d:ls m=some z):az aj f w (ab eN 2) (kZ q t none none) y=some (.a,kZ q t (some (.b z)) none,y):=by
 have c:∀y,f' y .b [.a m]=some (.b z):=λy=>by refine(?_:(ls m).map V.b=_);exact J d rfl
 exact aA ((as (ag j)) ((as (ag (u []))) ((aZ (ag (g []))) ((N (o _)) ((N (c _)) rfl)))))
theorem PC(j:eD (.a t) [.a [108,119],.a [108,98],.a [108,98,117]]=some false)(u:∀y,bp y .Eq (.a t) (.a [108,117,105])=some false)(g:∀y,bp y .Eq (.a t) (.a [108,105])=some false)(o:∀y,bp y .Eq (.a t) (.a [109,118])=some true)(d:∀y,a_ y q (.b 2)=some (.a m))(c:∀y,a_ y (.e gQ) (.a m)=some (.b r))(f:a_ y (.c 0) (.b r)=some (.b z)):az aj p w (ab eN 2) (kZ q t none none) y=some (.a,kZ q t (some (.b z)) none,y):=by exact aA ((as (ag j)) ((as (ag (u []))) ((as (ag (g []))) ((aZ (ag (o []))) ((N (d _)) ((N (c _)) ((N f) rfl)))))))
theorem Er(j:eD (.a t) [.a [108,119],.a [108,98],.a [108,98,117]]=some false)(u:∀y,bp y .Eq (.a t) (.a [108,117,105])=some false)(g:∀y,bp y .Eq (.a t) (.a [108,105])=some false)(o:∀y,bp y .Eq (.a t) (.a [109,118])=some false)(d:∀y,bp y .Eq (.a t) (.a [97,100,100,105])=some true)(c:∀y,a_ y q (.b 2)=some (.a m))(f:∀y,a_ y (.e gQ) (.a m)=some (.b r))(p:a_ y (.c 0) (.b r)=some (.b z))(v:∀y,a_ y q (.b 3)=some (.a k))(b:∀y,e 45 [.a k] y=some (.b i,y)):az aj e w (ab eN 2) (kZ q t none none) y=some (.a,kZ q t (some (.b (z+i))) none,y):=by exact aA ((as (ag j)) ((as (ag (u []))) ((as (ag (g []))) ((as (ag (o []))) ((aZ (ag (d []))) ((N (c _)) ((N (f _)) ((N p) ((N (v _)) ((H (b _)) rfl))))))))))
theorem PD(j:eD (.a t) [.a [108,119],.a [108,98],.a [108,98,117]]=some false)(g:∀y,bp y .Eq (.a t) (.a [108,117,105])=some false)(o:∀y,bp y .Eq (.a t) (.a [108,105])=some false)(d:∀y,bp y .Eq (.a t) (.a [109,118])=some false)(c:∀y,bp y .Eq (.a t) (.a [97,100,100,105])=some false)(f:∀y,a_ y q (.b 2)=some (.a m))(p:∀y,a_ y (.e gQ) (.a m)=some (.b r))(v:a_ y (.c 0) (.b r)=some u)(k:∀y,a_ y q (.b 3)=some (.a b))(i:∀y,a_ y (.e gQ) (.a b)=some (.b l))(n:a_ y (.c 0) (.b l)=some s)(e:∀y,x 48 [.a t,u,s] y=some (.b z,y)):az aj x w (ab eN 2) (kZ q t none none) y=some (.a,kZ q t (some (.b z)) none,y):=by exact aA ((as (ag j)) ((as (ag (g []))) ((as (ag (o []))) ((as (ag (d []))) ((as (ag (c []))) ((N (f _)) ((N (p _)) ((N v) ((N (k _)) ((N (i _)) ((N n) ((H (e _)) rfl))))))))))))
theorem AW{n}:∀a b,c_ n a=true->c_ n b=true->c_ n (a++b)=true:=by intro q;induction q with|nil=>intro O O z;exact z|cons O a j=>intro b y z;exact cy (aE y).1 (j b (aE y).2 z)
theorem Pt{w k}(v:df k s)q(x:bA (.a q)=true)(t:fU q=true)(h:gF q=false):∃L,az aj (I w 52) w (ab eN 2) (ec q (some (.a q.a)) none none none none) (ba s)=some (.a,ec q (some (.a q.a)) none (some (.b (ea q s.a s.c))) L none,ba s):=by
 have D:=v.a.a;have C:=λ(r:cT)=>mx (s:=s) D (kb r);have T:a_ (ba s) (.c 0) (.b 6)=some (.b (aG s.a 6)):=mx (r:=6) D (by decide);have R:=λ(q:fl)z=>IK w 52 (by decide) q z;have F:=λ(r:cT)z=>js (z:=z) (iZ r);have V:=λz=>js (z:=z) vH;have f:∀{y u:B},(y==u)=false->∀z,bp z .Eq (.a y) (.a u)=some false:=λh z=>by refine lB.trans (J h ?_);rfl
 have g:∀{y u:B},(y==u)=true->∀z,bp z .Eq (.a y) (.a u)=some true:=λh z=>by refine lB.trans (J h ?_);rfl
 induction q with
|d Z y Q=>exact⟨none,Er rfl (f rfl) (f rfl) (f rfl) (g rfl) (λO=>kd) (F y) (C y) (λO=>rW) (R Q)⟩|i Z Q=>exact⟨none,Es rfl (g rfl) (λO=>kd) (R Q) (by clear h t x;induction Q<;>decide)⟩|g U Z y u=>have e:=λz=>It w 52 (by decide) U (aG s.a y.a) (aG s.a u.a) (v.a.c _) (v.a.c _) z;refine⟨none,PD ?_ (f ?_) (f ?_) (f ?_) (f ?_) (λO=>kd) (F y) (C y) (λO=>rW) (F u) (C u) e⟩<;>(clear e;clear h t x;induction U)<;>rfl|f U Z Y=>have G:=Ba w 52 (by decide) Y (z:=ba s) (q:=0) (b:=s.a) rfl D (vs v);have M:I w 52 51 [.c 1,.b (cL Y s.a),.b 1] (ba s)=some (.b (he s.c (cL Y s.a) 1),ba s):=A4 w 52 (by decide) (m:=s.c) rfl v.c _ 1 (by decide);refine⟨some (.b (cL Y s.a)),?_⟩;clear h t x;induction U with|a=>exact aA ((H G) ((H (A4 w 52 (by decide) (m:=s.c) rfl v.c _ 4 (by decide))) rfl))|d=>exact aA ((H G) ((H M) rfl))|c=>
 by_cases W:127<he s.c (cL Y s.a) 1;. refine J Fg (J (if_pos W) ?_);exact aA ((H G) ((H M) ((aZ (em W)) rfl)))
 . refine J Fg (J (if_neg W) ?_);exact aA ((H G) ((H M) ((as (e' W)) rfl)))
|o Z=>exact⟨none,PB rfl (f rfl) (g rfl) (λO=>kd) (by kernel_rfl)⟩|p Z=>exact⟨none,PC rfl (f rfl) (f rfl) (g rfl) (λO=>kd) V T⟩|n P=>exact⟨none,Es rfl (g rfl) (λO=>kd) (λz=>IL w 52 (by decide) P x z) (by rcases zV x with rfl|rfl|rfl|rfl|rfl<;>decide+kernel)⟩|m P=>exact⟨none,Er rfl (f rfl) (f rfl) (f rfl) (g rfl) (λO=>kd) V T (λO=>rW) (λz=>H0 w 52 (by decide) P x z)⟩|c=>exact am h.symm|b=>exact am t|e=>exact am t|k=>exact am t|j=>exact am t|l=>exact am t
theorem tA(h:gF i=false)s:b_ i s={s with a:=dY s.a (dZ i) (ea i s.a s.c)}:=by induction i<;>first|rfl|exact am h.symm
theorem qM(z:df k s):df (k+1) (b_ i s):=by
 have q:=z.e;have y:=z.d;by_cases h:gF i=true;. induction i with|c o v j=>have:=Fw s.c (cL j s.a) (aG s.a v.a) o.a;have:=rY o;refine⟨z.a,Rb z.c _ _ _,by refine(?_:(gx _ _ _ _).length<=_);lia,by refine(?_:(s.b++_).length<=_);simp;exact y,?_⟩;exact AW _ _ z.b rfl|_=>exact am h
 . refine J (tA (by simpa using h) _) ?_;have u:dZ i<32:=by clear h;induction i<;>first|exact kb _|(refine(?_:(6:Nat)<32);decide)|(refine(?_:(0:Nat)<32);decide)
   exact⟨A2 z.a u,z.c,by exact ac q (bw (4*k) 4),by exact bX y,z.b⟩
theorem H5 w n(h:52<n)(y:df k s)(m:k<=1000)i(u:bA (.a i)=true)(j:fU i=true):I w n 52 [ah (i.a::i.h),.c 0,.c 1,.c 2] (ba s)=some (.j,ba (b_ i s)):=by
 by_cases z:gF i=true;. clear j u;induction i with|c o v p=>refine av (Ps (w:=w) y m o v p) λt e=>?_;exact Be (f:=qP) h rfl (by decide) rfl rfl (.inr rfl) e rfl (vs (qM y))|_=>exact am z
 . have z:gF i=false:=by simpa using z
   refine av (Pt (w:=w) y i u j z) λq r=>?_;refine bg (zd j z) λd l b x=>?_;have a:az aj (I w 52) w (ab eN 0) (ec i none none none none none) (ba s)=some (.a,ec i (some (.a i.a)) none none none none,ba s):=by exact aA rfl
   have Z:az aj (I w 52) w (ab eN 1) (ec i (some (.a i.a)) none none none none) (ba s)=some (.a,ec i (some (.a i.a)) none none none none,ba s):=by exact aA ((H ((zB w 52 (by decide)) _)) ((as (OG j z)) rfl))
   have g:=qd (s:=s) y.a.a (r:=d.a) (x:=ea i s.a s.c%4294967296) (kb d);have Y:eY (ba {s with a:=s.a.set d.a (ea i s.a s.c%4294967296)}) (.c 0) (.b 0) (.b 0)=some (ba {s with a:=(s.a.set d.a (ea i s.a s.c%4294967296)).set 0 0}):=qd (s:={s with a:=s.a.set d.a (ea i s.a s.c%4294967296)}) (by exact fZ.trans y.a.a) (r:=0) (x:=0) (by decide);have Q:az aj (I w 52) w (ab eN 3) (ec i (some (.a i.a)) none (some (.b (ea i s.a s.c))) q none) (ba s)=some (.a,ec i (some (.a i.a)) none (some (.b (ea i s.a s.c))) q none,ba {s with a:=s.a.set d.a (ea i s.a s.c%4294967296)}):=by
    have U:∀f,a_ f (ah (i.a::i.h)) (.b 1)=some (.a d.b):=λf=>by exact J b rV
    rw [<-pj]at g⊢;exact aA ((N (U _)) ((N (js (iZ d))) ((je g) rfl)))
   have G:az aj (I w 52) w (ab eN 4) (ec i (some (.a i.a)) none (some (.b (ea i s.a s.c))) q none) (ba {s with a:=s.a.set d.a (ea i s.a s.c%4294967296)})=some (.a,ec i (some (.a i.a)) none (some (.b (ea i s.a s.c))) q none,ba (b_ i s)):=by(refine J (tA z _) ?_);refine J (aN x) ?_;exact aA ((je Y) rfl)
   have W:eN=ab eN 0::ab eN 1::ab eN 2::ab eN 3::ab eN 4::[]:=rfl;have e:aI aj (I w 52) w qP.c (cu qP [ah (i.a::i.h),.c 0,.c 1,.c 2]) (ba s)=some (.a,ec i (some (.a i.a)) none (some (.b (ea i s.a s.c))) q none,ba (b_ i s)):=by refine J W (J cU ?_);refine J a (J fg ?_);refine J cU (J Z ?_);refine J fg (J cU ?_);refine J r (J fg ?_);refine J cU (J Q ?_);refine J fg (J cU ?_);refine J G (J fg ?_);exact eF rfl
   exact Be (f:=qP) h rfl (by decide) rfl rfl (.inl rfl) e rfl (vs (qM y))
def fS(t:B):List B:=cn (dQ 44 [32] t)
def jc(t:B):List B:=fS ((cc 35 t).headD [])
theorem OS s:∃c r,dQ 44 [32] (ci s)=c::r/\∀x∈c::r,ca x=true:=by
 have h:∀n,∀x∈List.replicate n 32,ca x=true:=λn x z=>by exact J (List.mem_replicate.mp z).2 qf
 unfold ci;split;. exact(ax 32 [] ⟨rfl,h 1⟩)
 . exact(ax 32 [32,32] ⟨rfl,h 3⟩)
 . exact(ax 32 [32] ⟨rfl,h 2⟩)
theorem wS{t}(h:da t=true):dQ 44 [32] t=t:=ve (iW h (by decide))
theorem Q7 s:∀{l:List B},(∀t∈l,da t=true)->cn (dQ 44 [32] (cm (ci s) l))=l:=by intro j;induction j with|nil=>intro O;exact rfl|cons x j u=>induction j using List.casesOn with|nil=>intro h;have z:=h x (.head _);refine J (wS z) ?_;have:=ol (t:=x) (l:=[]) (vK z) (pY z) (.inl rfl);rw [gX]at this;rw [this];rfl|cons y l=>intro h;have z:=h x (.head _);refine bg (OS s) λc r e q=>?_;refine J (vd _ _ _ _) (J (vd _ _ _ _) ?_);refine J (wS z) (J e ?_);refine J (gW _ _ _) (J (ol (l:=(c::r)++dQ 44 [32] (cm (ci s) (y::l))) (vK z) (pY z) (.inr (ax c _ ⟨rfl,q c (.head _)⟩))) ?_);refine J (Fs q) (J (u λt g=>h t (.tail _ g)) ?_);rfl
theorem Ky s:44∉cE s:=λh=>absurd (mQ s 44 h) (by decide+kernel)
theorem kM s i(h:bA (.a i)=true):fS ((an.a i).b s)=i.a::i.h:=by unfold fS;rw [lw];unfold dz;have z:=mz i;have y:dQ 44 [32] (32::cm (ci s) i.h)=32::dQ 44 [32] (cm (ci s) i.h):=rfl;refine J (vd _ _ _ _) (J (vd _ _ _ _) ?_);refine J (ve (Ky s)) (J (wS z) ?_);refine J y (J (Fs (mQ s)) ?_);refine J (ol (vK z) (pY z) (.inr (ax 32 _ ⟨rfl,qf⟩))) (J (Fq qf) ?_);exact J (Q7 s (ts h)) rfl
theorem Oz s i(h:bA (.a i)=true):35∉(an.a i).b s:=by refine J (lw _ _) (J (propext cr) ?_);refine J (propext not_or) ?_;exact⟨λz=>absurd (mQ s 35 z) (by decide+kernel),lz h (by decide) (by decide) (by decide)⟩
theorem Nl s i(h:bA (.a i)=true):jc ((an.a i).b s)=i.a::i.h:=by unfold jc;exact J (rT (Oz s i h)) (kM s i h)
theorem xs(h:dn g=true):fS (g++[58])=[g++[58]]:=by
 have y:=iX h;have z:∀c∈g++[58],ca c=false:=λc j=>by
  refine(cr.mp j).elim (λq=>?_) λq=>?_;. exact pY y c q
  . rw [bF.mp q];decide+kernel
 unfold fS;rw [ve (by rw [cr,not_or];exact⟨iW y (by decide),by decide⟩)];have:=ol (t:=g++[58]) (l:=[]) (by simp) z (.inl rfl);rw [gX]at this;rw [this];rfl
theorem Nm(h:dn g=true):jc (g++[58])=[g++[58]]:=by unfold jc;rw [rT (by rw [cr,not_or];exact⟨iW (iX h) (by decide),by decide⟩)];exact xs h
theorem Nn:((List.range 3).all λk=>tj.all λd=>decide (jc ((an.e d).b k)=(aQ.d d d .d).a::(aQ.d d d .d).h))=true:=by decide+kernel
def uQ(l:List B):Bool:=match l with|[]=>true|a::_=>(match bM a (-1),bM a 0 with|some x,some y=>x !=58&&y==46|_,_=>false)
theorem Np:((List.range 3).all λk=>([an.g,.f true,.f false,.c .f,.c .b,.c .d,.c .g,.c .e,.c .c,.c .a]:List an).all λr=>uQ (jc (r.b k)))=true:=by decide+kernel
set_option genCtorIdx true in inductive LO where|a(i:aQ)|c(g:B)|b
noncomputable def iw:an->LO|.a i=>.a i|.d g=>.c g|.g=>.b|.f _=>.b|.e d=>.a (.d d d .d)|.c _=>.b
theorem No s r(h:bA r=true):match iw r with|.a i=>jc (r.b s)=i.a::i.h/\bA (.a i)=true|.c q=>jc (r.b s)=[q++[58]]|.b=>uQ (jc (r.b s))=true:=by
 refine D (nI s) λk j e=>?_;have z:∀r:an,r∈([an.g,.f true,.f false,.c .f,.c .b,.c .d,.c .g,.c .e,.c .c,.c .a])->uQ (jc (r.b s))=true:=λr u=>by exact J (e _) (cs.mp (cs.mp Np k (fJ.mpr (au j (by decide)))) r u)
 induction r with|a i=>exact⟨Nl s i h,h⟩|d q=>exact Nm h|e y=>refine⟨?_,rfl⟩;exact J (e _) (bt (cs.mp (cs.mp Nn k (fJ.mpr (au j (by decide)))) y (yG y)))|g=>exact z _ (by repeat first|exact .head _|refine .tail _ ?_)|f b=>clear h;induction b<;>exact z _ (by repeat first|exact .head _|refine .tail _ ?_)|c y=>clear h;induction y<;>exact z _ (by repeat first|exact .head _|refine .tail _ ?_)
def I8(t:B):Bool:=(bM t (-1)).any (λx=>decide (x≠58))&&(bM t 0).any (λy=>decide (y≠46))
theorem Ax{p:Nat->Prop} [DecidablePred p](h:o.any (λx=>decide (p x))=true):∃x,o=some x/\p x:=by induction o with|none=>exact am h|some x=>exact⟨x,rfl,bt h⟩
theorem DU(i:aQ):I8 i.a=true:=by induction i with|g o=>induction o<;>rfl|c o=>induction o<;>rfl|f o=>induction o<;>rfl|b o=>induction o<;>rfl|_=>rfl
theorem DT(i:aQ):∃x y,bM i.a (-1)=some x/\bM i.a 0=some y/\x≠58/\y≠46:=by refine D (Ax (aE (DU i)).1) λx z q=>?_;refine D (Ax (aE (DU i)).2) λy j u=>?_;exact(ax x y ⟨z,j,q,u⟩)
noncomputable def cV:List A->List aQ|[]=>[]|l::z=>match iw l.2 with|.a i=>i::cV z|_=>cV z
noncomputable def dm:List A->Nat->List (B×Nat)|[],_=>[]|l::z,k=>match iw l.2 with|.c g=>(g,k)::dm z k|.a _=>dm z (k+1)|.b=>dm z k
noncomputable def gl(z:List (B×Nat)):ht:=z.map λe=>(.a e.1,.b (e.2:Int))
def ns(c:List aQ):V:=.d (c.map λi=>ah (i.a::i.h))
def gf(z:List aQ)(y:List (B×Nat)):af:=[ns z,.e (gl y)]
theorem R4 c t:∃r,cc c t=(cc c t).headD []::r:=by induction t using List.casesOn with|nil=>exact⟨[],rfl⟩|cons x t=>
refine J rS ?_;split;. exact⟨_,rfl⟩
. split<;>exact⟨_,rfl⟩
theorem Jw{d:ht}{k v}(h:∀e∈d,e.1≠k):fh d k v=d++[(k,v)]:=by induction d with|nil=>rfl|cons e d z=>refine oe.trans ((if_neg (h e (.head _))).trans ?_);exact J (z λx y=>h x (.tail _ y)) rfl
theorem C1 y:∀k,(dm y k).map (λO=>O.1)=bZ y:=by induction y with|nil=>intro k;rfl|cons l y z=>intro k;obtain⟨s,r⟩:=l;refine J (kJ _ _) ?_;induction r with|d q=>refine(?_:q::(dm y k).map _=_);refine J (z _) ?_;rfl|a i=>refine(z _).trans ?_;rfl|e j=>refine(z _).trans ?_;rfl|g=>refine(z _).trans ?_;rfl|f b=>refine(z _).trans ?_;rfl|c j=>refine(z _).trans ?_;rfl
inductive yY(q z:List A)(u:ao)(g:af):Prop|a(y j w o:_)(_:u=[some (ah (q.map λl=>l.2.b l.1)),some (.c 0),some (.c 1),w,o])(_:g=gf y j)(_:y++cV z=cV q)(_:j++dm z y.length=dm q 0)(_:(∀l∈z,bA l.2=true))(_:y.length+z.length<=q.length)(_:j.length+z.length<=q.length)
theorem jF l z:cV (l::z)=match iw l.2 with|.a i=>i::cV z|_=>cV z:=rfl
theorem Fv l z k:dm (l::z) k=match iw l.2 with|.c g=>(g,k)::dm z k|.a _=>dm z (k+1)|.b=>dm z k:=rfl
theorem MZ{z}:f' (gf z y) .a [.c 0]=some (.b (z.length:Int)):=by refine(?_:some (V.b ((z.map _).length:Nat))=_);exact J (bU _) rfl
abbrev mh:List aY:=cz iR 1
abbrev j_(v:V)(z y:Option V):ao:=[some v,some (.c 0),some (.c 1),z,y]
theorem O8{w}{v}{t}{u}:az aj (I w 46) w (ab mh 0) (j_ v (some (.a t)) u) z=some (.a,j_ v (some (.a t)) (some (ah (jc t))),z):=by
 refine av (R4 35 t) λr e=>?_;have y:bM ((cc 35 t).map V.a) 0=some (.a ((cc 35 t).headD [])):=by refine J e (J dU ?_);exact xr _ _
 have q:mD (.a ((cc 35 t).headD [])) [44] [32]=some (.a (dQ 44 [32] ((cc 35 t).headD []))):=rfl;have j:∀z,cN z .l (.a (dQ 44 [32] ((cc 35 t).headD []))) []=some (ah (jc t),z):=λz=>rfl;generalize(cc 35 t).headD []=x at y q j;exact aA ((N y) (by simp [-NU,mh,cz,iR,y,q,j]))
theorem IT:bp z .Eq (ah []) (.d [])=some true:=rfl
theorem H9 w n(h:46<n)u(O:u.length<=300)(a0:∀l∈u,bA l.2=true)(a1:(bZ u).Nodup)b:I w n 46 [ah (u.map λl=>l.2.b l.1)] b=some (.g [ns (cV u),.e (gl (dm u 0))],b):=by
 have L:ak=1000000:=rfl;have R:cA (az aj (I w 46) w (ab iR 1) (j_ (ah (u.map λl=>l.2.b l.1)) none none) (gf [] [])) (λq=>q.1=.a/\yY u [] q.2.1 q.2.2):=by
  refine(?_:cA (az aj (I w 46) w (.b _ _ _ _ _ _ _ _) _ _) _);rw [ga (m:=[]) (z:=0) (y:=j_ (ah (u.map λl=>l.2.b l.1)) none none) (q:=gf [] []) (d:=j_ (ah (u.map λl=>l.2.b l.1)) none none) (j:=gf [] []) (c:=gf [] []) (o:=[ah (u.map λl=>l.2.b l.1)]) (f:=u.map λl=>V.a (l.2.b l.1)) rfl (fb rfl) (by refine(?_:some ((u.map λl=>l.2.b l.1).map V.a)=_);rw [di];rfl)];refine gr (λl:A=>V.a (l.2.b l.1)) (yY u) _ ?_ ?_ u _ _ ⟨[],[],none,none,rfl,rfl,rfl,rfl,a0,by simp,by simp⟩;. rintro K b h;exact⟨rfl,h⟩
  . rintro l p K b⟨z,o,B,E,rfl,rfl,f,d,C,s,Z⟩;simp only [List.length_cons]at s Z;have j:=No l.1 l.2 (C l (.head _));have v:∀l∈p,bA l.2=true:=λx Y=>C x (.tail _ Y)
    have Q:z.length<ak:=bl (bl (au (bw (List.length z) (List.length p)) s) O) (by decide);refine J kD ?_;rw [if_pos (by simp)];refine qJ (s:=ab mh 0) (g:=mh.drop 1) O8 ?_;replace f:=(jF _ _)▸f;replace d:=(Fv _ _ _)▸d;induction U:iw l.2 with|a i=>
rw [U]at j f d;dsimp only at j f d;rw [j.1];refine gN (DT i) λx y t r G N=>?_;have S:cN (gf z o) .e (.c 0) [ah (i.a::i.h)]=some (.j,gf (z++[i]) o):=by rw [nW (z:=z.map λi=>ah (i.a::i.h)) rfl (by rw [bU];exact Q)];unfold gf ns;rw [fz];rfl
have W:ek (gf z o) .e (.c 0)=true:=rfl;refine⟨(.a,j_ (ah (u.map λl=>l.2.b l.1)) (some (.a (l.2.b l.1))) (some (ah (i.a::i.h))),gf (z++[i]) o),?_,z++[i],o,_,_,rfl,rfl,by rw [gW];exact f,by rw [dN];exact d,v,by rw [dN];simp;lia,bC Z⟩;simp [mh,cz,iR,hM,t,r,G,N,W,S]|c g=>
rw [U]at j f d;dsimp only at j f d;rw [j];have t:bM (g++[58]) (-1)=some 58:=mA g 58;have r:=(rQ g 58).2;have X:fh (gl o) (.a g) (.b z.length)=gl (o++[(g,z.length)]):=by
 rw [Jw];. unfold gl;rw [fz];rfl
 . intro e H;refine D (cG.mp H) λx Y z1=>?_;subst z1;intro q;have m:=C1 u 0;replace m:=d.symm▸m;replace m:=fz▸m;replace m:=dU▸m;exact(iE.mp (m.symm▸a1)).2.2 x.1 (cG.mpr ⟨x,Y,rfl⟩) g (.head _) (by injection q)
have iC:eY (gf z o) (.c 1) (.a g) (.b z.length)=some (gf z (o++[(g,z.length)])):=by rw [lu (d:=gl o) rfl rfl (by unfold gl;rw [bU];exact bl (bl (au (bw (List.length o) (List.length p)) Z) O) (by decide))];exact J X rfl
refine⟨(.a,j_ (ah (u.map λl=>l.2.b l.1)) (some (.a (l.2.b l.1))) (some (ah [g++[58]])),gf z (o++[(g,z.length)])),?_,z,o++[(g,z.length)],_,_,rfl,rfl,f,by rw [gW];exact d,v,bC s, by rw [dN]; simp; lia⟩;simp [-jV, mh, cz, iR, hM, t, r, MZ, iC]|b=>rw [U]at j f d;dsimp only at j f d;have k:∀x,yY u p (j_ (ah (u.map λl=>l.2.b l.1)) (some (.a (l.2.b l.1))) x) (gf z o):=λx=>⟨z,o,_,_,rfl,rfl,f,d,v,bC s,bC Z⟩;induction W:jc (l.2.b l.1)using List.casesOn with|nil=>refine⟨(.c,j_ (ah (u.map λl:A=>l.2.b l.1)) (some (.a (l.2.b l.1))) (some (ah [])),gf z o),?_,k (some (ah []))⟩;simp [mh,cz,iR,IT]|cons a F=>replace j:=W▸j;unfold uQ at j;dsimp only at j;induction t:bM a (-1)with|none=>replace j:=t▸j;exact am j|some x=>
refine fC (o:=bM a 0) (λr=>?_) λy r=>?_;. replace j:=t▸j;replace j:=r▸j;exact am j
. replace j:=t▸j;replace j:=r▸j;dsimp only at j;rw [fy,bne_iff_ne,ez]at j;refine ae j λG z2=>?_;subst z2;refine⟨(.a,j_ (ah (u.map λl:A=>l.2.b l.1)) (some (.a (l.2.b l.1))) (some (ah (a::F))),gf z o),?_,k (some (ah (a::F)))⟩;simp [mh,cz,iR,hM,t,r,G]
 obtain⟨⟨fl,cp,a2⟩,e1,M,z,o,B,E,P,T,f,d,_⟩:=R;dsimp only at M P T;subst M P T;replace f:=(show cV []=[]from rfl)▸f;replace f:=(gX _)▸f;replace d:=(show dm [] z.length=[]from rfl)▸d;replace d:=(gX _)▸d;subst f d;refine ct (f:=zY) h rfl (by decide) rfl rfl (cy (lq _) rfl) (z:=gf (cV u) (dm u 0)) (v:=.g [.c 0,.c 1]) ?_ ?_;. refine aS (s:=ab iR 0) (j:=iR.drop 1) (z:=j_ (ah (u.map λl=>l.2.b l.1)) none none) (y:=gf [] []) (by simp [iR,zY,eR,gu];rfl) (aS (s:=ab iR 1) (j:=iR.drop 2) e1 ?_);exact aK rfl
 . exact oh (pM (jm _) rfl (kz (λi=>lq _) _)) (sm rfl)
structure oA where
b:List aQ
a:List (B×Nat)
noncomputable def er(z:List (B×Nat))(g:B):Option Nat:=(z.find? λe=>e.1=g).map (λO=>O.2)
theorem Ec y g:bD (gl y) (.a g)=(er y g).map λk=>.b (k:Int):=by unfold bD er gl;induction y with|nil=>rfl|cons e y q=>
have z:(aD.a e.1=aD.a g)↔e.1=g:=by refine J (aD.a.injEq _ _) ?_;rfl
simp only [List.map_cons,List.find?_cons,z];by_cases h:e.1=g;. simp [h]
. simp only [h,decide_false];exact q
def mr(b:List Int):B:=[46,76]++dW ((aG b 6-7000)/3000)
def oO(b:List Int)(n:Nat):List Int:=(((b.set 1 77).set 5 5).set 6 12293).set 10 ((n:Int)*40503)
def mK(s:dM):dM:={s with a:=oO s.a (s.b.length+1),b:=s.b++[.g [.a [102],.b (aG s.a 10),.b (aG s.a 9)]]}
set_option genCtorIdx true in inductive gS where|a(z:Nat)(s:dM)|b(t:B)
def jd(y:List (B×Nat))(i:aQ)(z:Nat)(s:dM):gS:=match i with|.d ..=>.a z (b_ i s)|.i ..=>.a z (b_ i s)|.g ..=>.a z (b_ i s)|.c ..=>.a z (b_ i s)|.f ..=>.a z (b_ i s)|.b k a b g=>if fG k (aG s.a a.a) (aG s.a b.a)then .a ((er y g).getD 0) s else .a z s|.e g=>.a ((er y g).getD 0) s|.k=>.b [48,40,114,97,41]|.j=>if aG s.a 6%3000=1000 then(match er y (mr s.a)with|some k=>.a k s|none=>.b [48,40,116,49,41])else .b [48,40,116,49,41]|.l=>.a z (mK s)|.o ..=>.a z (b_ i s)|.p ..=>.a z (b_ i s)|.n ..=>.a z (b_ i s)|.m ..=>.a z (b_ i s)
abbrev mX:=List V×Option (B×List Int)
noncomputable def kg(y:oA):Nat->Nat->dM->mX|0,_,s=>(s.b,none)|n+1,z,s=>match y.b[z]? with|none=>(s.b,some ([111,118,101,114],s.a))|some i=>match jd y.a i (z+1) s with|.b t=>(s.b,some (t,s.a))|.a z s=>kg y n z s
theorem EK{n z}:kg y (n+1) z s=match y.b[z]? with|none=>(s.b,some ([111,118,101,114],s.a))|some i=>match jd y.a i (z+1) s with|.b t=>(s.b,some (t,s.a))|.a z s=>kg y n z s:=rfl
def ic:Option (B×List Int)->V|none=>.j|some (t,b)=>.g [.a t,ir b]
noncomputable def Ck(r:mX):V:=.g [.d r.1,ic r.2]
theorem P7(h:cw i=true):(dW i).length<=101:=by simpa [dW,String.length_toList]using(PySem.int_text_length_le10 (k:=100) (by decide) (lX (by simpa [cw]using h) (by decide)))
noncomputable def jZ:aQ->Bool|.d ..=>false|.i ..=>false|.g ..=>false|.c ..=>false|.f ..=>false|.b ..=>true|.e _=>false|.k=>false|.j=>false|.l=>false|.o _=>false|.p _=>false|.n _=>false|.m _=>false
theorem tu i:eD (.a i.a) [.a [98,101,113],.a [98,110,101],.a [98,108,116],.a [98,103,101],.a [98,108,116,117],.a [98,103,101,117]]=some (jZ i):=by induction i with|g o=>induction o<;>rfl|c o=>induction o<;>rfl|f o=>induction o<;>rfl|b o=>induction o<;>rfl|_=>rfl
noncomputable abbrev hB:List aY:=cz gD 3
abbrev ff(v:V)(z:oA)(y:Nat)(q j u g:Option V):ao:=[some v,some (ns z.b),some (.e (gl z.a)),some (.b (y:Int)),some (.c 0),some (.c 1),some (.c 2),q,j,u,g]
abbrev bQ(i:aQ):V:=ah (i.a::i.h)
def mV(w:Nat)(v:V)(z:oA)(i:aQ)(y:Nat)(s:dM):Prop:=∀q g o,match jd z.a i (y+1) s with|.a j d=>∃c f,az aj (I w 53) w (ab hB 2) (ff v z (y+1) q (some (bQ i)) g o) (ba s)=some (.a,ff v z j q (some (bQ i)) c f,ba d)|.b t=>∃u,az aj (I w 53) w (ab hB 2) (ff v z (y+1) q (some (bQ i)) g o) (ba s)=some (.b (.g [.c 2,.g [.a t,.c 0]]),u,ba s)
theorem Lt{w k}{v}(m:df k s)(p:k<=1000)(u:bA (.a i)=true)(y:fU i=true):mV w v t i f s:=by
 intro x r e;have z:jd t.a i (f+1) s=.a (f+1) (b_ i s):=by clear u;induction i<;>first|rfl|exact am y
 refine J z (ax r e ?_);have q:=tu i;have g:jZ i=false:=by clear q z;clear u;induction i<;>first|rfl|exact am y
 replace q:=g▸q;have d:(i.a==[106,97,108])=false:=by clear g;clear q z;clear u;induction i with|g o=>clear y;induction o<;>rfl|c o=>clear y;induction o<;>rfl|f o=>clear y;induction o<;>rfl|b=>exact am y|e=>exact am y|l=>exact am y|_=>rfl
 have n:(i.a==[106,97,108,114])=false:=by clear d g;clear q z;clear u;induction i with|g o=>clear y;induction o<;>rfl|c o=>clear y;induction o<;>rfl|f o=>clear y;induction o<;>rfl|b=>exact am y|k=>exact am y|j=>exact am y|_=>rfl
 exact aA ((H ((lA w 53 (by decide)) _)) ((as (ag q)) ((as d) ((as d) ((as n) ((H (H5 w 53 (by decide) m p i u y)) rfl))))))
structure th(z:oA):Prop where
b:∀i∈z.b,bA (.a i)=true
a:∀i∈z.b,∀g,dk (.a i)=some g->∃k,er z.a g=some k
theorem xi(h:er z g=some k):a_ y (.e (gl z)) (.a g)=some (.b (k:Int)):=by refine J (sY (d:=gl z) rfl) (J (Ec _ _) ?_);exact J h rfl
theorem LB(j:∃k,er y.a g=some k):mV w v y (.e g) u s:=by intro d c f;refine av j λt q=>?_;have o:=lA w 53 (by decide);have z:jd y.a (.e g) (u+1) s=.a ((er y.a g).getD 0) s:=rfl;refine J z (J q ?_);exact(ax _ _ (aA ((H (o _)) ((N (xi q)) rfl))))
theorem Lw(p:df k s)(b:∃k,er d.a g=some k):mV w v d (.b a x y g) c s:=by intro i l n;refine av b λt f=>?_;have m:=lA w 53 (by decide);have j:=Ix w 53 (by decide) a (aG s.a x.a) (aG s.a y.a) (ba s);have e:=p.a.a;have u:=λ(r:cT)=>mx (s:=s) e (kb r);have o:=tu (.b a x y g);have o:eD (.a a.a) [.a [98,101,113],.a [98,110,101],.a [98,108,116],.a [98,103,101],.a [98,108,116,117],.a [98,103,101,117]]=some true:=o;have z:jd d.a (.b a x y g) (c+1) s=if fG a (aG s.a x.a) (aG s.a y.a)then .a ((er d.a g).getD 0) s else .a (c+1) s:=rfl;refine J z (J f ?_);induction q:fG a (aG s.a x.a) (aG s.a y.a)with|true=>rw [q]at j;exact J (if_pos rfl) (ax _ _ (aA ((H (m _)) ((aZ (ag o)) ((N (js (iZ x))) ((N (u x)) ((N (js (iZ y))) ((N (u y)) ((H j) ((N (xi f)) rfl))))))))))|false=>rw [q]at j;exact J (if_neg (by simp)) (ax _ _ (aA ((H (m _)) ((aZ (ag o)) ((N (js (iZ x))) ((N (u x)) ((N (js (iZ y))) ((N (u y)) ((H j) rfl)))))))))
theorem Lx(g:df k s)(o:k<=1000):mV w v p .l d s:=by
 intro h Z Y;have L:ak=1000000:=rfl;have j:=g.d;have t:=lA w 53 (by decide);have q:=g.a.a;have r:a_ (ba s) (.c 0) (.b 10)=some (.b (aG s.a 10)):=mx (r:=10) q (by decide);have b:a_ (ba s) (.c 0) (.b 9)=some (.b (aG s.a 9)):=mx (r:=9) q (by decide);have e:=DM (s:=s) (v:=.g [.a [102],.b (aG s.a 10),.b (aG s.a 9)]) (au j (au o (by decide)));have c:cw (s.b.length+1:Nat)=true:=ok (au j (au o (by decide)));have i:cw 40503=true:=by decide
 generalize f:s.b++[.g [.a [102],.b (aG s.a 10),.b (aG s.a 9)]]=z at*;have m:s.b.length+1=z.length:=by refine J f.symm (J dN ?_);rfl
 rw [m]at c;have l:eY (ba {s with b:=z}) (.c 0) (.b 1) (.b 77)=some (ba {s with b:=z,a:=s.a.set 1 77}):=qd (s:={s with b:=z}) q (r:=1) (by decide);have n:eY (ba {s with b:=z,a:=s.a.set 1 77}) (.c 0) (.b 5) (.b 5)=some (ba {s with b:=z,a:=(s.a.set 1 77).set 5 5}):=qd (s:={s with b:=z,a:=s.a.set 1 77}) (by exact J fZ q) (r:=5) (by decide);have x:eY (ba {s with b:=z,a:=(s.a.set 1 77).set 5 5}) (.c 0) (.b 6) (.b 12293)=some (ba {s with b:=z,a:=((s.a.set 1 77).set 5 5).set 6 12293}):=qd (s:={s with b:=z,a:=(s.a.set 1 77).set 5 5}) (by refine J fZ (J fZ ?_);exact q) (r:=6) (by decide);have a:eY (ba {s with b:=z,a:=((s.a.set 1 77).set 5 5).set 6 12293}) (.c 0) (.b 10) (.b ((z.length:Nat)*40503))=some (ba {s with b:=z,a:=oO s.a z.length}):=qd (s:={s with b:=z,a:=((s.a.set 1 77).set 5 5).set 6 12293}) (by refine J fZ (J fZ ?_);exact J fZ q) (r:=10) (by decide);have y:jd p.a .l (d+1) s=.a (d+1) (mK s):=rfl;refine J y ?_;dsimp only;have u:ba (mK s)=ba {s with b:=z,a:=oO s.a z.length}:=by refine J m.symm (J (aN f) ?_);rfl
 exact J u (ax _ _ (aA ((H (t _)) ((N r) ((N b) ((H e) ((N (pt c i)) ((je l) ((je n) ((je x) ((je a) rfl)))))))))))
theorem Qf(h:-4294967296<x/\x<4294967296):cw x=true:=by
 have z:2^32<=2^200:=yg (by decide) (by decide);have y:2^32=4294967296:=by decide
 exact em (bl (by omega) z)
def mo(x:Int):B:=[46,76]++dW ((x-7000)/3000)
theorem O0:ce [48,40,114,97,41] (some 2) (some (-1))=[114,97]:=by kernel_rfl
theorem wQ:ce [48,40,116,49,41] (some 2) (some (-1))=[116,49]:=by kernel_rfl
theorem PJ:bD gQ (.a [114,97])=some (.b 1):=by kernel_rfl
theorem Nq(y:nD x):(∀z,cZ z .FloorDiv (.b (x-7000)) (.b 3000)=some (.b ((x-7000)/3000)))/\cw ((x-7000)/3000)=true/\(∀z,cZ z .Add (.a [46,76]) (.a (dW ((x-7000)/3000)))=some (.a (mo x))):=by
 have j:=y.1;have u:=y.2;have q:cw ((x-7000)/3000)=true:=Qf ⟨lW (by decide) (Int.le_ediv_of_mul_le (a:=-3) (by decide) (Int.le_sub_right_of_add_le (oD (by decide) j))),Int.ediv_lt_of_lt_mul (by decide) (Int.sub_right_lt_of_lt_add (Int.lt_trans u (by decide)))⟩;refine⟨λz=>?_,q,λz=>?_⟩;. refine J (AY (by decide) (by decide)) (J (yh _ (by decide)) ?_);rfl
 . exact kA (by simp;exact au (cX (P7 q) 2) (by decide))
abbrev qF:List aY:=match ab hB 2 with|.a _ _ [.a _ _ [.a _ _ [.a _ l _ _] _] _] _=>l|_=>[]
theorem un{t}{z y q}(h:dP aj (I w 53) w qF (ff v j u z (some (ah [[106,97,108,114],[122,101,114,111],t])) y q) g hN=r):az aj (I w 53) w (ab hB 2) (ff v j u z (some (ah [[106,97,108,114],[122,101,114,111],t])) y q) g=r:=aA ((H (lA w 53 (by decide) _)) h)
theorem uo{t u:B}{n:Nat}{z o g}(d:ce t (some 2) (some (-1))=u)(c:bD gQ (.a u)=some (.b (n:Int)))(f:a_ y (.c 0) (.b (n:Int))=some (.b x))(m:nD x)(h:dP aj (I w 53) w (qF.drop 2) (ff v q j z (some (ah [[106,97,108,114],[122,101,114,111],t])) (some (.b x)) (some (.a (mo x)))) y hN=r):dP aj (I w 53) w qF (ff v q j z (some (ah [[106,97,108,114],[122,101,114,111],t])) o g) y hN=r:=by
 have n:=Nq m;refine(N (js (d.symm▸c))) ((N f) ?_);have e:az aj (I w 53) w (ab qF 1) (ff v q j z (some (ah [[106,97,108,114],[122,101,114,111],t])) (some (.b x)) g) y=some (.a,ff v q j z (some (ah [[106,97,108,114],[122,101,114,111],t])) (some (.b x)) (some (.a (mo x))),y):=by simp [qF,hB,cz,gD,n.1,n.2.1,n.2.2]
 exact(lL e) h
theorem MJ(z:df k s):mV w v y .k q s:=by intro j u g;exact⟨_,un (t:=[48,40,114,97,41]) (uo (n:=1) O0 PJ (mx (r:=1) z.a.a (by decide)) (z.a.c 1) rfl)⟩
theorem LC(d:df k s):mV w v q .j m s:=by
 intro p r b;have g:a_ (ba s) (.c 0) (.b 6)=some (.b (aG s.a 6)):=mx (r:=6) d.a.a (by decide);have o:=d.a.c 6;have c:∀x:Int,x.fmod 3000=x%3000:=λx=>jL _ (by decide);have y:jd q.a .j (m+1) s=if aG s.a 6%3000=1000 then(match er q.a (mo (aG s.a 6))with|some k=>.a k s|none=>.b [48,40,116,49,41])else .b [48,40,116,49,41]:=rfl;refine J y ?_;clear y;generalize aG s.a 6=x at*;by_cases z:x%3000=1000
 . refine J (if_pos z) ?_;have u:(!(x.fmod 3000==1000))=false:=by rw [c,z];rfl
   have j:=Ec q.a (mo x);induction f:er q.a (mo x)with|none=>rw [f]at j;exact⟨_,un (t:=[48,40,116,49,41]) (uo (n:=6) wQ vH g o ((as u) ((aZ (by rw [j];rfl:(!(bD (gl q.a) (.a (mo x))).isSome)=true)) rfl)))⟩|some t=>rw [f]at j;exact(ax _ _ (un (t:=[48,40,116,49,41]) (uo (n:=6) wQ vH g o ((as u) ((as (by rw [j];rfl:(!(bD (gl q.a) (.a (mo x))).isSome)=false)) ((N ((sY (d:=gl q.a) rfl).trans (by rw [j];rfl))) rfl))))))
 . refine J (if_neg z) ?_;have u:(!(x.fmod 3000==1000))=true:=by rw [c];simp [z]
   exact⟨_,un (t:=[48,40,116,49,41]) (uo (n:=6) wQ vH g o ((aZ u) rfl))⟩
theorem Lv(q:th d)(z:df k s)(c:k<=1000)(u:i∈d.b):mV w v d i m s:=by
 have f:=q.b i u;refine ia (b:=fU i) (λo=>?_) λo=>?_;. exact Lt z c f o
 . clear f;induction i with|b a x y g=>exact Lw z (q.a _ u g rfl)|e g=>exact LB (q.a _ u g rfl)|k=>exact MJ z|j=>exact LC z|l=>exact Lx z c|_=>exact am o.symm
theorem df.f(z:df k s):df (k+1) s:=⟨z.a,z.c,ac z.e (bw (4*k) 4),bX z.d,z.b⟩
theorem Bd{n r}(z:b.length=32):aG (oO b n) r=if r=10 then(n:Int)*40503 else if r=6 then 12293 else if r=5 then 5 else if r=1 then 77 else aG b r:=by
 have y:(b.set 1 77).length=32:=by exact fZ.trans z
 have q:((b.set 1 77).set 5 5).length=32:=by exact fZ.trans y
 have j:(((b.set 1 77).set 5 5).set 6 12293).length=32:=by exact fZ.trans q
 refine(pr j (by decide)).trans (J (pr q (by decide)) ?_);refine J (pr y (by decide)) (J (pr z (by decide)) ?_);rfl
theorem zN(z:df k s)(q:k<=1000):df (k+1) (mK s):=by
 have y:=z.d;refine⟨⟨?_,λr=>?_,?_⟩,z.c,by exact ac z.e (bw (4*k) 4),by refine(?_:(s.b++_).length<=_);simp;exact y,AW _ _ z.b rfl⟩;. refine(?_:(oO _ _).length=32);unfold oO;simp [z.a.a]
 . refine J (Bd z.a.a) ?_;split;. exact⟨fw ((List.length s.b+1)*40503),by lia⟩
   . split;. exact⟨by decide,by decide⟩
     . split;. exact⟨by decide,by decide⟩
       . split;. exact⟨by decide,by decide⟩
         . exact z.a.c r
 . exact(Bd z.a.a).trans z.a.d
theorem gS.c(h:gS.a r s=.a y z):z=s:=by cases h;rfl
theorem gS.d{t}{z:Prop}(h:gS.b t=.a y q):z:=nomatch h
theorem Rg(h:jd u i w s=.a q z):z=s\/(z=b_ i s/\fU i=true)\/z=mK s:=by
 induction i with|b a x y g=>have h:(if fG a (aG s.a x.a) (aG s.a y.a)then gS.a ((er u g).getD 0) s else .a w s)=.a q z:=h;split at h<;>exact .inl (gS.c h)|e g=>exact .inl (gS.c h)|k=>exact gS.d h|j=>
   replace h:(if _ then(match er u (mr s.a)with|some k=>gS.a k s|none=>.b _)else .b _)=gS.a _ z:=h;split at h
   . split at h;. exact .inl (gS.c h)
     . exact gS.d h
   . exact gS.d h|l=>exact .inr (.inr (gS.c h))|_=>exact .inr (.inl ⟨gS.c h,rfl⟩)
theorem Rh(z:df k s)(y:k<=1000)(h:jd u i g s=.a q j):df (k+1) j:=by
 rcases Rg h with rfl|⟨rfl,_⟩|rfl;. exact z.f
 . exact qM z
 . exact zN z y
noncomputable def qD:List Int:=(List.range 32).map λi:Nat=>1000003*(i:Int)*(i:Int)
def gw:dM:=⟨qD,[],[]⟩
theorem GB:oR qD:=by
 refine⟨rfl,λr=>?_,rfl⟩;by_cases h:r<32
 . have:((List.range 32).all λr=>decide (0<=aG qD r)&&decide (aG qD r<4294967296))=true:=by decide+kernel
   have:=cs.mp this r (fJ.mpr h);simp only [Bool.and_eq_true,decide_eq_true_eq]at this;exact this
 . have:aG qD r=0:=by unfold aG;refine J hY ?_;refine J (List.getElem?_eq_none (by exact g' h)) ?_;rfl
   exact J this ⟨by decide,by decide⟩
theorem w':df 0 gw:=⟨GB,(λO h=>absurd h fY),aH _,aH _,rfl⟩
def GS(v:V)(q:oA)(r:mX):eM×ao×af->Prop|(.a,y,z)=>∃s j g w o d,y=ff v q j g w o d/\z=ba s/\r=(s.b,none)/\c_ 0 s.b=true|(.b u,y,z)=>∃s t,u=.g [.c 2,.g [.a t,.c 0]]/\z=ba s/\r=(s.b,some (t,s.a))/\c_ 0 s.b=true|_=>False
inductive GP(v:V)(y:oA)(r:mX)(z:List Nat)(j:ao)(u:af):Prop|a(k s q g w o d:_)(_:j=ff v y q g w o d)(_:u=ba s)(_:df k s)(_:k+z.length<=100)(_:kg y z.length q s=r)
theorem L7{y}{c}{z:Nat}{i}(h:c[z]?=some i):a_ y (ns c) (.b (z:Int))=some (bQ i):=by refine(lm (z:=c.map λi=>ah (i.a::i.h)) rfl).trans ((ik _ _).trans ?_);refine J hw ?_;exact J h rfl
theorem Qp{w}{v}(Q:th y)z:cA (az aj (I w 53) w (ab gD 3) (ff v y z none none none none) (ba gw)) (GS v y (kg y 100 z gw)):=by
 refine J (ga (m:=[]) (z:=1) (y:=ff v y z none none none none) (q:=ba gw) (d:=ff v y z none none none none) (j:=ba gw) (c:=ba gw) (o:=[.b (100:Nat)]) (f:=(List.range 100).map λi:Nat=>V.b i) rfl (fb rfl) (rE (by decide))) (gr (λi:Nat=>V.b (i:Int)) (GP v y (kg y 100 z gw)) _ ?_ ?_ (List.range 100) _ _ ⟨0,gw,z,none,none,none,none,rfl,rfl,w',by refine J iC ?_;exact by decide,by refine J iC ?_;rfl⟩);. rintro Z p⟨k,s,z,x,u,q,j,rfl,rfl,c,_,e⟩;exact(mP s z x u q j ⟨rfl,rfl,e.symm,c.b⟩)
 . rintro a g Z p⟨k,s,z,x,u,q,j,rfl,rfl,c,r,e⟩;simp only [List.length_cons]at r e;refine J kD (J (if_pos (by simp)) ?_);refine(?_:cA (aI aj (I w 53) w hB (ff v y z (some (.b (a:Int))) u q j) (ba s)) _);have h:hB=ab hB 0::ab hB 1::ab hB 2::[]:=rfl;rw [EK]at e;refine fC (o:=y.b[z]?) (λo=>?_) λi o=>?_
   . rw [o]at e;dsimp only at e;have Y:y.b.length<=(z:Int):=g_.mpr (kt.mp o);have b:az aj (I w 53) w (ab hB 0) (ff v y z (some (.b a)) u q j) (ba s)=some (.b (.g [.c 2,.g [.a [111,118,101,114],.c 0]]),ff v y z (some (.b a)) u q j,ba s):=by exact aA (aZ (by simp [-jV,hB,cz,gD,Y]) rfl)
     refine J h (J cU ?_);refine J b (J pT ?_);exact⟨_,rfl,s,_,rfl,rfl,e.symm,c.b⟩
   . rw [o]at e;dsimp only at e;have m:¬(y.b.length:Int)<=(z:Int):=Int.not_le_of_gt (cY.mpr ((bo.mp o).1));have b:az aj (I w 53) w (ab hB 0) (ff v y z (some (.b (a:Int))) u q j) (ba s)=some (.a,ff v y z (some (.b (a:Int))) u q j,ba s):=by exact aA (as (by simp [-jV,hB,cz,gD,m]) rfl)
     have U:az aj (I w 53) w (ab hB 1) (ff v y z (some (.b (a:Int))) u q j) (ba s)=some (.a,ff v y (z+1) (some (.b (a:Int))) (some (bQ i)) q j,ba s):=by exact aA ((N ((λp=>L7 (y:=p) o) _)) rfl)
     refine J h (J cU ?_);refine J b (J fg ?_);refine J cU (J U ?_);refine J fg (J cU ?_);have f:=Lv (w:=w) (v:=v) (m:=z) Q c (ac (ac (bw k (List.length g+1)) r) (by decide)) (cq o) (some (.b (a:Int))) q j;induction d:jd y.a i (z+1) s with|a l G=>rw [d]at f e;dsimp only at f e;refine go f λD W n=>?_;refine J n (J fg ?_);refine J tz ?_;exact⟨_,rfl,k+1,G,l,_,_,_,_,rfl,rfl,Rh c (ac (ac (bw k (List.length g+1)) r) (by decide)) d,by lia,e⟩|b t=>rw [d]at f e;dsimp only at f e;refine av f λO n=>?_;refine J n (J pT ?_);exact⟨_,rfl,s,t,rfl,rfl,e.symm,c.b⟩
theorem EQ(h:c_ 0 s.b=true):cP 0 (ba s) (.c 2)=some (.d s.b)/\cP 0 (ba s) (.c 0)=some (ir s.a):=by exact⟨pM (jm _) rfl h,pM (jm _) rfl (rc 0 s.a)⟩
theorem If w n(h:53<n)z(b:z.length<=300)(e:∀l∈z,bA l.2=true)(i:(bZ z).Nodup)(x:th ⟨cV z,dm z 0⟩)(a:er (dm z 0) hn=some q)j:I w n 53 [ah (z.map λl=>l.2.b l.1)] j=some (Ck (kg ⟨cV z,dm z 0⟩ 100 q gw),j):=by
 have Z:=H9 w 53 (by decide) z b e i [];generalize Y:ah (z.map λl=>l.2.b l.1)=v at*;refine D (Qp (w:=w) (v:=v) x q) λQ m o=>?_;obtain⟨U,S,G⟩:=Q;have p:c_ 0 [v]=true:=by refine J (aN Y) ?_;simp [c_]
 have W:∀j,a_ j (.e (gl (dm z 0))) (.a hn)=some (.b q):=λj=>xi a;have g:∀{u:V}{y:af},bu (aI aj (I w 53) w (gD.drop 3) (ff v ⟨cV z,dm z 0⟩ q none none none none) (ba gw)) u y->bu (aI aj (I w 53) w gD (cu tI [v]) []) u y:=by
  intro u y O;refine aS (s:=ab gD 0) (j:=gD.drop 1) (z:=[some v,some (ns (cV z)),some (.e (gl (dm z 0))),none,none,none,none,none,none,none,none]) (y:=[]) ?_ ?_;. exact aA ((H Z) rfl)
  refine aS (s:=ab gD 1) (j:=gD.drop 2) (z:=[some v,some (ns (cV z)),some (.e (gl (dm z 0))),none,some (.c 0),some (.c 1),some (.c 2),none,none,none,none]) (y:=ba gw) ?_ ?_;. kernel_rfl
  refine aS (s:=ab gD 2) (j:=gD.drop 3) (z:=ff v ⟨cV z,dm z 0⟩ q none none none none) (y:=ba gw) ?_ O;exact aA ((N (W _)) rfl)
 have r:gD.drop 3=ab gD 3::ab gD 4::[]:=rfl
 induction U with|a=>
 refine ja o λs C X A x9 F=>?_;refine D F λbD M P=>?_;subst M;refine ae P λT R=>?_;subst T;refine ae R λd c=>?_;refine J d (ae (EQ c) λf k=>?_);refine ct (f:=tI) h rfl (by decide) rfl rfl p (z:=ba s) (v:=.g [.c 2,.j]) (g ?_) ?_;. refine J r (aS m ?_);exact aK rfl
 . exact oh f rfl|b u=>
refine bg o λs t K B=>?_;subst K;refine ae B λE L=>?_;subst E;refine ae L λd c=>?_;refine J d (ae (EQ c) λf k=>?_);refine ct (f:=tI) h rfl (by decide) rfl rfl p (z:=ba s) (v:=.g [.c 2,.g [.a t,.c 0]]) (g ?_) ?_;. refine J r (J cU ?_);refine J m (J pT ?_);exact⟨_,rfl⟩
. exact oh f (oh rfl k)|c=>exact o.elim
def ie(r:an):Option aQ:=match iw r with|.a i=>some i|_=>none
noncomputable def bH:List A->Option (aQ×List A)|[]=>none|l::z=>match ie l.2 with|some i=>some (i,z)|none=>bH z
noncomputable def cI(g:B):List A->Option (List A)|[]=>none|l::z=>if kI l.2=some g then some z else cI g z
theorem fM:cI g (l::z)=if kI l.2=some g then some z else cI g z:=rfl
noncomputable def c'(z:List A)(g:B):List A:=(cI g z).getD z
set_option genCtorIdx true in inductive gR where|a(r:List A)(s:dM)|b(t:B)
def cR(z:List A)(i:aQ)(r:List A)(s:dM):gR:=match i with|.d ..=>.a r (b_ i s)|.i ..=>.a r (b_ i s)|.g ..=>.a r (b_ i s)|.c ..=>.a r (b_ i s)|.f ..=>.a r (b_ i s)|.b k a b g=>if fG k (aG s.a a.a) (aG s.a b.a)then .a (c' z g) s else .a r s|.e g=>.a (c' z g) s|.k=>.b [48,40,114,97,41]|.j=>if aG s.a 6%3000=1000 then(match cI (mr s.a) z with|some k=>.a k s|none=>.b [48,40,116,49,41])else .b [48,40,116,49,41]|.l=>.a r (mK s)|.o ..=>.a r (b_ i s)|.p ..=>.a r (b_ i s)|.n ..=>.a r (b_ i s)|.m ..=>.a r (b_ i s)
noncomputable def gO(z:List A):Nat->List A->dM->mX|0,_,s=>(s.b,none)|n+1,r,s=>match bH r with|none=>(s.b,some ([111,118,101,114],s.a))|some (i,r)=>match cR z i r s with|.b t=>(s.b,some (t,s.a))|.a r s=>gO z n r s
theorem oi{n}:gO z (n+1) r s=match bH r with|none=>(s.b,some ([111,118,101,114],s.a))|some (i,r)=>match cR z i r s with|.b t=>(s.b,some (t,s.a))|.a r s=>gO z n r s:=rfl
theorem zQ a b:cV (a++b)=cV a++cV b:=by induction a with|nil=>rfl|cons l a z=>refine J hx (J (jF _ _) ?_);refine J (jF _ _) (J z ?_);induction iw l.2<;>rfl
theorem Nb(h:bH r=none):cV r=[]:=by induction r with|nil=>rfl|cons l r y=>refine(jF _ _).trans ?_;unfold bH ie at h;induction z:iw l.2 with|a i=>rw [z]at h;exact C h.symm|c g=>rw [z]at h;exact y h|b=>rw [z]at h;exact y h
theorem Ou(h:bH r=some (i,o)):∃z,r=z++o/\cV z=[i]:=by induction r with|nil=>exact C h|cons l r q=>unfold bH ie at h;induction y:iw l.2 with|a j=>rw [y]at h;clear q;refine lv h ?_;exact⟨[l],rfl,by refine(jF _ _).trans (J y ?_);rfl⟩|c g=>rw [y]at h;refine D (q h) λz u w=>?_;exact⟨l::z,by exact J u rfl,by refine J (jF _ _) (J y ?_);exact w⟩|b=>rw [y]at h;refine D (q h) λz u w=>?_;exact⟨l::z,by exact J u rfl,by refine J (jF _ _) (J y ?_);exact w⟩
theorem OR r:kI r=match iw r with|.c g=>some g|_=>none:=by induction r<;>rfl
theorem q_ g:∀y k,(cI g y=none/\er (dm y k) g=none)\/∃z r,cI g y=some r/\y=z++r/\er (dm y k) g=some (k+(cV z).length):=by intro m;induction m with
|nil=>intro k;exact .inl ⟨rfl,rfl⟩
|cons l y d=>intro k;refine J fM (J (Fv _ _ _) ?_);refine J (OR _) ?_;induction o:iw l.2 with|a i=>
  dsimp only;refine J (if_neg (λq=>C q)) ?_;rcases d (k+1)with h|⟨z,r,j,u,w⟩;. exact .inl h
  . exact .inr (ax (l::z) r ⟨j,by exact J u rfl,by refine J w (J (jF _ _) ?_);refine J o ?_;simp;lia⟩)|b=>
  dsimp only;refine J (if_neg (λq=>C q)) ?_;rcases d k with h|⟨z,r,j,u,w⟩;. exact .inl h
  . exact .inr (ax (l::z) r ⟨j,by exact J u rfl,by refine J w (J (jF _ _) ?_);exact J o rfl⟩)|c x=>
dsimp only;by_cases f:x=g;. subst f;refine J (if_pos rfl) (.inr (ax [l] y ⟨rfl,rfl,?_⟩));refine J (jF _ _) (J o ?_);refine(?_:er ((x,k)::_) x=some (k+0));unfold er;simp
. refine J (if_neg (λq=>f (ag q))) ?_;have e:er ((x,k)::dm y k) g=er (dm y k) g:=by unfold er;refine J iB ?_;simp [f]
  refine J e ?_;rcases d k with h|⟨z,r,j,u,w⟩;. exact .inl h
  . exact .inr (ax (l::z) r ⟨j,by exact J u rfl,by refine J w (J (jF _ _) ?_);exact J o rfl⟩)
theorem R1 z:∀n y r s,z=y++r->kg ⟨cV z,dm z 0⟩ n (cV y).length s=gO z n r s:=by intro W;induction W with|zero=>intro O O O O;exact rfl|succ n t=>
intro y r s h;have C:(cV z)[(cV y).length]?=(cV r).head?:=by refine J h (J (zQ _ _) ?_);refine J (iF (aH _)) ?_;refine J (Nat.sub_self _) ?_;induction cV r using List.casesOn<;>rfl
refine EK.trans (J oi ?_);refine J C ?_;induction v:bH r with|none=>exact J (Nb v) rfl|some p=>
obtain⟨i,e⟩:=p;refine D (Ou v) λd Y l=>?_;have c:z=(y++d)++e:=by refine h.trans (J Y ?_);(exact J (gW _ _ _) rfl)
have f:(cV y).length+1=(cV (y++d)).length:=by refine J (zQ _ _) (J l ?_);exact J dN rfl
refine J Y (J (zQ _ _) ?_);refine J l ?_;dsimp only [List.singleton_append,List.head?_cons];have q:∀g s,kg ⟨cV z,dm z 0⟩ n ((er (dm z 0) g).getD 0) s=gO z n (c' z g) s:=λg s=>by
 unfold c';refine(q_ g z 0).elim (λu=>?_) λu=>?_;. refine ae u λw o=>?_;refine J w (J o ?_);exact t [] z s rfl
 . refine bP u λQ U w o x=>?_;refine J w (J x ?_);exact J (oL _) (t Q U s o)
have G:∀s,kg ⟨cV z,dm z 0⟩ n ((cV y).length+1) s=gO z n e s:=λs=>by exact J f (t _ e s c)
clear l v;induction i with
|b k a F g=>dsimp only [jd,cR];induction fG k (aG s.a a.a) (aG s.a F.a)with|true=>exact q g s|false=>exact G s
|e g=>exact q g s|k=>rfl|j=>
dsimp only [jd,cR];by_cases m:aG s.a 6%3000=1000
. refine J (if_pos m) (J (if_pos m) ?_);have Z:=q (mr s.a) s;unfold c' at Z;refine(q_ (mr s.a) z 0).elim (λu=>?_) λu=>?_;. refine ae u λw o=>?_;refine J w (J o ?_);rfl
  . refine bP u λQ U w o x=>?_;rw [w,x]at Z⊢;exact Z
. refine J (if_neg m) (J (if_neg m) ?_);rfl|_=>exact G _
def ny(r z:mX):Prop:=match r.2 with|none=>r.1<+:z.1|some _=>z=r
theorem ny.a(h:ny z b)(k:ny b c):ny z c:=by obtain⟨e,x⟩:=z;induction x with|some t=>have h:b=(e,some t):=h;clear h;refine J h.symm ?_;exact k|none=>have h:e<+:b.1:=h;obtain⟨y,q⟩:=b;induction q with|none=>exact List.IsPrefix.trans h k|some t=>have k:c=(y,some t):=k;clear k;exact J k h
theorem gR.c(h:gR.a r s=.a y z):z=s:=by cases h;rfl
theorem gR.d{t}{z:Prop}(h:gR.b t=.a y q):z:=nomatch h
theorem xm(h:cR q i r s=.a u z):z=s\/(z=b_ i s/\fU i=true)\/z=mK s:=by
 induction i with|b a x y g=>have h:(if fG a (aG s.a x.a) (aG s.a y.a)then gR.a (c' q g) s else .a r s)=.a u z:=h;split at h<;>exact .inl (gR.c h)|e g=>exact .inl (gR.c h)|k=>exact gR.d h|j=>
   replace h:(if _ then(match cI (mr s.a) q with|some k=>gR.a k s|none=>.b _)else .b _)=gR.a _ z:=h;split at h
   . split at h;. exact .inl (gR.c h)
     . exact gR.d h
   . exact gR.d h|l=>exact .inr (.inr (gR.c h))|_=>exact .inr (.inl ⟨gR.c h,rfl⟩)
theorem Ko i s:s.b<+:(b_ i s).b:=by induction i<;>first|exact qp _|exact l_ _ _
theorem Re(h:cR y i r s=.a q z):s.b<+:z.b:=by
 rcases xm h with rfl|⟨rfl,_⟩|rfl;. exact qp _
 . exact Ko i s
 . exact l_ _ _
theorem Rf(z:df k s)(y:k<=1000)(h:cR j i r s=.a u q):df (k+1) q:=by
 rcases xm h with rfl|⟨rfl,_⟩|rfl;. exact z.f
 . exact qM z
 . exact zN z y
theorem vf z:∀n r s,s.b<+:(gO z n r s).1|0,_,_=>qp _|n+1,r,s=>by refine J oi ?_;induction bH r with|none=>exact qp _|some p=>obtain⟨i,y⟩:=p;dsimp only;induction h:cR z i y s with|b t=>exact qp _|a q j=>exact List.IsPrefix.trans (Re h) (vf z n q j)
inductive jR(w o:List A)(n:List A->List A->dM->Prop)(r m:List A)(s:dM):Prop where|c(h:bH r=none)(Q:bH m=none)|d(i u:aQ)(y z:List A)(t:B)(h:bH r=some (i,y))(Q:bH m=some (u,z))(x:cR w i y s=.b t)(a0:cR o u z s=.b t)|a(i u:aQ)(y z q p:List A)(G:dM)(h:bH r=some (i,y))(Q:bH m=some (u,z))(x:cR w i y s=.a q G)(a0:cR o u z s=.a p G)(O:n q p G)|b(i:aQ)(y q v:List A)(h:bH r=some (i,y))(x:cR w i y s=.a q s)(a1:bH m=bH v)(O:n q v s)|f(i j:aQ)(y q k l v:List A)(L:dM)(h:bH r=some (i,y))(x:cR w i y s=.a q L)(a2:L.b=s.b)(h2:bH q=some (j,k))(e2:cR w j k L=.a l s)(a1:bH m=bH v)(O:n l v s)|g(i j u:aQ)(y z q p k l:List A)(h:bH r=some (i,y))(x:cR w i y s=.a q s)(h2:bH q=some (j,k))(e2:cR w j k s=.a l s)(Q:bH m=some (u,z))(a0:cR o u z s=.a p s)(O:n l p s)
theorem mF{n}(h:bH r=some (i,y))(e:cR z i y s=.a q j):gO z (n+1) r s=gO z n q j:=by refine oi.trans ?_;rw [h];dsimp only;rw [e]
theorem EH{t}{n}(h:bH r=some (i,z))(e:cR y i z s=.b t):gO y (n+1) r s=(s.b,some (t,s.a)):=by refine oi.trans ?_;rw [h];dsimp only;rw [e]
theorem EI{n}(h:bH r=none):gO z (n+1) r s=(s.b,some ([111,118,101,114],s.a)):=by refine oi.trans (J h ?_);rfl
theorem EG{n}(h:bH r=bH q):gO z (n+1) r s=gO z (n+1) q s:=by refine oi.trans (J h ?_);rfl
theorem Am{e}(h:e<+:r.1):ny (e,none) r:=h
theorem R2{Q}(L:∀k r z s,k<=1000->df k s->Q r z s->jR a0 y Q r z s):∀n m k r z s,df k s->k+n<=900->n<=m->Q r z s->ny (gO a0 n r s) (gO y m z s):=by intro n;induction n using Nat.strongRecOn with|_ n b=>intro m k r z s o d l D;induction n using Nat.casesOn with|zero=>exact Am (vf y m z s)|succ n=>obtain⟨m,rfl⟩:∃C,m=C+1:=⟨m-1,by lia⟩;induction L k r z s (ac (ac (bw k (n+1)) d) (by decide)) o D with
|c h u=>refine J (EI h) (J (EI u) ?_);rfl|d i O x p t h u e v=>refine J (EH h e) (J (EH u v) ?_);rfl|a i O x p q a F h u e v w=>refine J (mF h e) (J (mF u v) ?_);exact b n (aH (Nat.succ n)) m (k+1) q a F (Rf o (ac (ac (bw k (n+1)) d) (by decide)) e) (by lia) (eB l) w|b i x q Z h e Y w=>refine J (mF h e) (J (EG Y) ?_);exact b n (aH (Nat.succ n)) (m+1) k q Z s o (bC d) (bC l) w|f i j x q M U Z T h e P G W Y w=>refine J (mF h e) ?_;induction n using Nat.casesOn with|zero=>have:=vf y (m+1) z s;rw [<-P]at this;exact Am this|succ n=>refine J (mF G W) (J (EG Y) ?_);exact b n (bw (Nat.succ n) 1) (m+1) k U Z s o (bC (bC d)) (bC (bC l)) w
|g i j O x p q a M U h e G W u v w=>refine J (mF h e) (J (mF u v) ?_);induction n using Nat.casesOn with|zero=>exact Am (vf y m a s)|succ n=>exact J (mF G W) (b n (bw (Nat.succ n) 1) m k U a s o (bC (bC d)) (bC (eB l)) w)
def mE(z:List A)(n:Nat):mX:=gO z n (c' z hn) gw
def jf(q z:List A):Prop:=∀n y,n<=y->n<=900->ny (mE q n) (mE z y)
theorem jf.m(h:jf a b)(k:jf b c):jf a c:=λn y q z=>(h n n (aH _) z).a (k n y q z)
theorem rK{y}(u:∀k r q s,k<=1000->df k s->y r q s->jR j z y r q s)(g:y (c' j hn) (c' z hn) gw):jf j z:=λn m w o=>R2 u n m 0 _ _ gw w' (ac (cX o 0) (by decide)) w g
theorem Qo{j n}(h:er (dm z 0) hn=some j):kg ⟨cV z,dm z 0⟩ n j gw=mE z n:=by
 unfold mE c';refine(q_ hn z 0).elim (λy=>?_) λy=>?_;. refine ae y λu q=>?_;exact C (q.symm.trans h)
 . refine bP y λg w u q o=>?_;rw [o]at h;refine J (ag h).symm (J u ?_);(refine J (oL _) ?_);exact R1 z n g w gw q
noncomputable def BG:aQ->Bool|.d ..=>true|.i ..=>true|.g ..=>true|.c ..=>true|.f ..=>true|.b ..=>true|.e _=>false|.k=>false|.j=>false|.l=>true|.o _=>true|.p _=>true|.n _=>true|.m _=>true
noncomputable def pi(i:aQ)(s:dM):dM:=match i with|.d ..=>b_ i s|.i ..=>b_ i s|.g ..=>b_ i s|.c ..=>b_ i s|.f ..=>b_ i s|.b ..=>s|.e _=>s|.k=>s|.j=>s|.l=>mK s|.o ..=>b_ i s|.p ..=>b_ i s|.n ..=>b_ i s|.m ..=>b_ i s
def lQ(y q:List A):Prop:=∃z,y=z++q
theorem Al z g:lQ z (c' z g):=by
 unfold c';refine(q_ g z 0).elim (λy=>?_) λy=>?_;. refine ae y λq O=>?_;exact J q ⟨[],rfl⟩
 . refine bP y λp r q j O=>?_;exact J q ⟨p,j⟩
theorem nS{f}(q:∀g,cI g z=(cI g y).map f)(j:f y=z)g:c' z g=f (c' y g):=by unfold c';refine J (q _) ?_;induction cI g y with|none=>exact j.symm|some r=>rfl
section
variable{z:List A->List A->dM->Prop}
theorem pS{f}(p:∀g,cI g u=(cI g y).map f)(Q:f y=u)(h:bH r=some (i,t))(w:bH G=some (i,o))(x:BG i=true->z t o (pi i s))(O:∀q,lQ y q->z q (f q) s):jR y u z r G s:=by
 have Z:=λg=>nS p Q g;have v:=λg=>O _ (Al y g)
 induction i with|b k a c g=>
refine ia (b:=fG k (aG s.a a.a) (aG s.a c.a)) (λl=>?_) λl=>?_
. have e:∀y r,cR y (.b k a c g) r s=.a (c' y g) s:=λy r=>by refine(?_:(if fG k (aG s.a a.a) (aG s.a c.a)then _ else _)=_);exact J l rfl
  exact .a _ _ _ _ _ _ s h w (e _ _) (e _ _) (by exact J (Z _) (v g))
. have e:∀y r,cR y (.b k a c g) r s=.a r s:=λy r=>by refine(?_:(if fG k (aG s.a a.a) (aG s.a c.a)then _ else _)=_);exact J l rfl
  exact .a _ _ _ _ _ _ s h w (e _ _) (e _ _) (x rfl)|e g=>exact .a _ _ _ _ _ _ s h w rfl rfl (by exact J (Z _) (v g))|k=>exact .d _ _ _ _ _ h w rfl rfl|j=>
by_cases m:aG s.a 6%3000=1000
. refine fC (o:=cI (mr s.a) y) (λd=>?_) λq d=>?_
  . have e:cR y .j t s=.b [48,40,116,49,41]:=by dsimp only [cR];refine(if_pos m).trans (J d ?_);rfl
    have n:cR u .j o s=.b [48,40,116,49,41]:=by dsimp only [cR];refine(if_pos m).trans ?_;rw [p,d];rfl
    exact .d _ _ _ _ _ h w e n
  . have e:cR y .j t s=.a q s:=by dsimp only [cR];refine(if_pos m).trans (J d ?_);rfl
    have n:cR u .j o s=.a (f q) s:=by dsimp only [cR];refine(if_pos m).trans ?_;rw [p,d];rfl
    have Y:c' y (mr s.a)=q:=by unfold c';exact J d rfl
    exact .a _ _ _ _ _ _ s h w e n (by exact J (aN Y) (v _))
. have e:∀y r,cR y .j r s=.b [48,40,116,49,41]:=λy r=>by dsimp only [cR];exact(if_neg m)
  exact .d _ _ _ _ _ h w (e _ _) (e _ _)|_=>exact .a _ _ _ _ _ _ _ h w rfl rfl (x rfl)
theorem jR.e(h:bH r=bH q)(v:bH G=bH k)(y:jR O x z q k s):jR O x z r G s:=by induction y with|c u w=>exact .c (h.trans u) (v.trans w)|d i l m o t u w p y=>exact .d i l m o t (h.trans u) (v.trans w) p y|a i l m o q k W u w p y n=>exact .a i l m o q k W (h.trans u) (v.trans w) p y n|b i m q Z u w p y=>exact .b i m q Z (h.trans u) w (v.trans p) y|f i j m q Y Q Z D u w p y n J U=>exact .f i j m q Y Q Z D (h.trans u) w p y n (v.trans J) U|g i j l m o q k Y Q u w p y n J U=>exact .g i j l m o q k Y Q (h.trans u) w p y (v.trans n) J U
end
theorem ju(h:ie l.2=none):bH (l::z)=bH z:=by conv=>{lhs;unfold bH};exact J h rfl
theorem lH(h:ie l.2=some i):bH (l::z)=some (i,z):=by unfold bH;exact J h rfl
theorem Kn(h:ie r=some i):fR r=!BG i:=by induction r with|a j=>cases h;induction i<;>rfl|e d=>refine J (ag h).symm ?_;rfl|_=>exact C h
theorem Na(h:ie r=none):fR r=false:=by induction r with|a j=>exact C h.symm|_=>rfl
theorem O7 l z:bE false (l::z)=l::bE (fR l.2) z:=by refine(rJ _ _ _).trans ?_;simp
theorem Ew g:∀q z,cI g (bE q z)=(cI g z).map (bE false):=by intro q j;induction j generalizing q with|nil=>exact rfl|cons l z y=>refine J (rJ _ _ _) ?_;obtain⟨s,r⟩:=l;induction r with
|d x=>
refine fM.trans (J (fM (z:=z)) ?_);split;. rfl
. exact y false|a i=>
have e:cI g ((s,an.a i)::z)=cI g z:=rfl;refine J e ?_;split;. exact y _
. exact y _|_=>exact J (if_neg (by simp [dD])) (y _)
def AD(r z:List A)(s:dM):Prop:=z=bE false r
theorem O6 z s:∀r,jR z (bE false z) AD r (bE false r) s:=by intro y;induction y with|nil=>exact .c rfl rfl|cons l r j=>
refine J (O7 _ _) (fC (o:=ie l.2) (λh=>?_) λi h=>?_);. exact J (Na h) ((j).e (ju h) (ju h))
. refine pS (f:=bE false) (λg=>Ew g false z) rfl (lH h) (lH h) (λu=>?_) (λq O=>rfl);(refine J (Kn h) ?_);exact J u rfl
theorem O_ z:jf z (bE false z):=rK (y:=AD) (λO r y s O O q=>by exact J (show y=bE false r from q) (O6 z s r)) (by exact J (nS (λg=>Ew g false z) rfl _) rfl)
theorem LA L:∀n z g,gv L z<=n->∃k,dL L k g=some (cl L z g):=by
 intro n;induction n with|zero=>
intro z g q;refine fC (o:=bN L g) (λh=>?_) λt h=>?_;. exact J (lE h) ⟨0,rfl⟩
. by_cases y:g∈z;. exact J (lF y) ⟨0,rfl⟩
  . exact absurd (kR h y) (nh (ac q (eT (Mp.gv L (z++[g])))))|succ n j=>
intro z g q;refine fC (o:=bN L g) (λh=>?_) λt h=>?_;. exact J (lE h) ⟨0,rfl⟩
. by_cases y:g∈z;. exact J (lF y) ⟨0,rfl⟩
  . refine J (p' h y) (av (j (z++[g]) t (eB (bl (kR h y) q))) λk e=>?_);exact⟨k+1,by refine(?_:(bN L g).bind (dL L k)=_);exact J h e⟩
theorem u'(h:cS r=true):ie r=none:=by induction r<;>first|rfl|exact am h
theorem BK:∀{r:List A}{t:B},fj r=some t->∃y,bH r=some (.e t,y)
|[],t,h=>C h|l::r,t,h=>by
 refine ia (b:=cS l.2) (λz=>?_) λz=>?_;. refine J (ju (u' z)) (BK (r:=r) ?_);unfold fj gb at h⊢;rw [nc (p:=λl:A=>cS l.2) z]at h;exact h
 . unfold fj gb at h;rw [nb (p:=λl:A=>cS l.2) (by simp [z])]at h;have h:ii l.2=some t:=h;refine⟨r,lH ?_⟩;clear z;obtain⟨s,q⟩:=l;induction q with
|a i=>induction i<;>first|((clear h;refine J (ag h) ?_);rfl)|exact C h
|_=>exact C h
theorem CG e L x:bN (e::L) x=if e.1=x then some e.2 else bN L x:=by
 unfold bN;refine J iB ?_;by_cases h:e.1=x;. simp [h]
 . simp [h]
theorem wt:∀{z:List A}{x t:B},bN (a' z) x=some t→(bZ z).Nodup→∃r,cI x z=some r∧fj r=some t
|[],x,t,h,_=>C h|l::z,x,t,h,j=>by rw [nU]at h;rw [kJ]at j;obtain⟨s,r⟩:=l;induction r with|d y=>
   have j:(y::bZ z).Nodup:=j;rw [hX]at j;dsimp only at h;have w:bN (a' z) x=some t→y≠x:=fun q e=>j.1 (by exact J e ((rt z).subset (cG.mpr ⟨(x,t),wu q,rfl⟩)));by_cases o:y=x;. subst o;refine⟨z,by exact fM.trans (if_pos rfl),?_⟩;induction u:fj z with|none=>rw [u]at h;exact absurd rfl (w h)|some g=>rw [u]at h;have h:bN ((y,g)::a' z) y=some t:=h;rw [CG,if_pos rfl]at h;exact h
   . have m:bN (a' z) x=some t:=by
      refine fC (o:=fj z) (fun u=>?_) fun g u=>?_;. rw [u]at h;exact h
      . rw [u]at h;have h:bN ((y,g)::a' z) x=some t:=h;rw [CG,if_neg o]at h;exact h
     refine D (wt m j.2) fun q c f=>?_;exact⟨q,by exact fM.trans ((if_neg (fun e=>o (ag e))).trans c),f⟩|_=>refine D (wt (z:=z) h j) fun q c f=>?_;exact⟨q,c,f⟩
inductive ox(z:List A):List A->List A->Prop where|a(r:List A):ox z r r|b{r q y:List A}{g:B}(h:bH r=some (.e g,q))(k:ox z (c' z g) y):ox z r y
theorem Ml(q:(bZ z).Nodup):∀k g x,dL (a' z) k g=some x->ox z (c' z g) (c' z x):=by intro j;induction j with|zero=>intro g x h;exact J (ag h) (.a _)|succ k u=>
intro g x h;have h:(bN (a' z) g).bind (dL (a' z) k)=some x:=h;refine fC (o:=bN (a' z) g) (λy=>?_) λt y=>?_;. exact C (y▸h)
. rw [y]at h;refine D (wt y q) λr w o=>?_;refine av (BK o) λf d=>?_;have c:c' z g=r:=by unfold c';exact J w rfl
  exact J c (.b d (u t x h))
inductive sr(z:List A)(r q:List A)(s:dM):Prop|a(y:_)(_:ox z r y)(_:q=y.map (bS (a' z)))
theorem C7 L r:ie (kK L r)=(ie r).map (p_ L):=by induction r with|a i=>induction i<;>rfl|_=>rfl
theorem MT L r:kI (kK L r)=kI r:=by induction r with|a i=>induction i<;>rfl|_=>rfl
theorem MW L:∀r,bH (r.map (bS L))=(bH r).map λp=>(p_ L p.1,p.2.map (bS L)):=by intro z;induction z with|nil=>exact rfl|cons l r y=>
refine J dU (fC (o:=ie l.2) (λh=>?_) λi h=>?_);. refine J (ju h) (J (ju (by(refine J (iN _ _) ?_;refine J (C7 _ _) ?_;refine J h ?_);rfl)) ?_);exact J (y) rfl
. refine J (lH h) (J (lH (i:=p_ L i) (by(refine J (iN _ _) ?_;refine J (C7 _ _) ?_;refine J h ?_);rfl)) ?_);rfl
theorem C5 L g:∀z,cI g (z.map (bS L))=(cI g z).map (λr=>r.map (bS L)):=by intro y;induction y with|nil=>exact rfl|cons l z q=>
refine J dU (fM.trans ?_);refine J (fM (z:=z)) ?_;refine J (iN _ _) (J (MT _ _) ?_);split;. rfl
. exact q
theorem MR(t:(bZ z).Nodup)s(h:ox z r v):jR z (cO z) (sr z) r (v.map (bS (a' z))) s:=by
 have d:=λg=>C5 (a' z) g z;have c:=λg=>nS (y:=z) (z:=cO z) d rfl g;have f:∀g,sr z (c' z g) ((c' z (cl (a' z) [] g)).map (bS (a' z))) s:=λg=>by refine av (LA (a' z) _ [] g (aH _)) λk e=>?_;exact⟨_,Ml t k g _ e,rfl⟩
 cases h with|b h k=>exact .b _ _ _ _ h rfl rfl ⟨_,k,rfl⟩|a=>have y:=MW (a' z) r;cases j:bH r with|none=>rw [j]at y;exact .c j y|some p=>
obtain⟨i,o⟩:=p;rw [j]at y;have w:p_ (a' z) i=i->(∀g,i≠.e g)->(∀k a u g,i≠.b k a u g)->jR z (cO z) (sr z) r (r.map (bS (a' z))) s:=λl O O=>by have y:bH (r.map (bS (a' z)))=some (p_ (a' z) i,o.map (bS (a' z))):=y;rw [l]at y;exact pS (f:=λr=>r.map (bS (a' z))) d rfl j y (λO=>⟨o,.a _,rfl⟩) (λq O=>⟨q,.a _,rfl⟩)
cases i with
|e g=>exact .a _ _ _ _ _ _ s j y rfl rfl (by exact J (c _) (f g))
|b k a u g=>cases m:fG k (aG s.a a.a) (aG s.a u.a)with|true=>
 have e:∀z r g,cR z (.b k a u g) r s=.a (c' z g) s:=λz r g=>by refine(?_:(if fG k (aG s.a a.a) (aG s.a u.a)then _ else _)=_);exact J m rfl
 exact .a _ _ _ _ _ _ s j y (e _ _ _) (e _ _ _) (by exact J (c _) (f g))|false=>
 have e:∀z r g,cR z (.b k a u g) r s=.a r s:=λz r g=>by refine(?_:(if fG k (aG s.a a.a) (aG s.a u.a)then _ else _)=_);exact J m rfl
 exact .a _ _ _ _ _ _ s j y (e _ _ _) (e _ _ _) ⟨o,.a _,rfl⟩
|_=>exact w rfl (λO q=>C (aJ (λi=>dk (.a i)) q)) (λO O O O q=>C (aJ (λi=>dk (.a i)) q))
theorem O9(y:(bZ z).Nodup):jf z (cO z):=rK (y:=sr z) (λO r j s O O q=>by obtain⟨u,h,rfl⟩:=q;exact MR y s h) (by rw [nS (y:=z) (z:=cO z) (λg=>C5 (a' z) g z) rfl];exact⟨_,.a _,rfl⟩)
theorem Bl:∀{r:List A}{x:B},x∈ej r->∃b,cI x r=some b/\bH b=bH r|[],x,h=>nomatch h|l::r,x,h=>by unfold ej at h;induction z:cS l.2 with|false=>rw [qt (p:=λl:A=>cS l.2) (by simp [z])]at h;exact nomatch h|true=>
replace h:=(qu (p:=λl:A=>cS l.2) z)▸h;replace h:=(kJ _ _)▸h;refine J (ju (u' z)) ?_;by_cases j:kI l.2=some x;. exact⟨r,by refine J fM (J (if_pos j) ?_);rfl,rfl⟩
. have h:x∈ej r:=by
   refine(cr.mp h).elim (λh=>?_) λh=>?_;. exfalso;clear z;obtain⟨s,q⟩:=l;induction q with|d y=>exact j (by exact J (bF.mp h) rfl)|_=>cases h
   . exact h
  refine D (Bl h) λb u g=>?_;exact⟨b,by refine J fM (J (if_neg j) ?_);exact u,g⟩
theorem Bm:∀{r b:List A},cI x r=some b->x∈bZ r
|[],b,h=>nomatch h|l::r,b,h=>by
 rw [fM]at h;refine J (kJ _ _) ?_;split at h;. rename_i z;obtain⟨s,q⟩:=l;induction q with|d y=>exact J (ag z) (.head _)|_=>exact C z
 . exact sR _ (Bm h)
theorem Gz:∀{r:List A},x∉bZ r->cI x r=none:=by intro j;induction j with|nil=>intro O;exact rfl|cons l r u=>intro h;replace h:=(kJ _ _)▸h;replace h:=(propext cr)▸h;replace h:=(propext not_or)▸h;refine J fM ?_;rw [if_neg,u h.2];intro z;obtain⟨s,q⟩:=l;induction q with|d y=>obtain rfl:=ag z;exact h.1 (.head _)|_=>exact C z
theorem Gy:∀p r,cI x p=none->cI x (p++r)=cI x r:=by intro z;induction z with|nil=>intro r O;exact rfl|cons l p y=>
intro r h;rw [fM]at h;split at h;. exact C h.symm
. rename_i q;refine J hx (J fM ?_);exact J (if_neg q) (y r h)
theorem L1 a b:bZ (a++b)=bZ a++bZ b:=by unfold bZ;exact J List.filterMap_append rfl
theorem GA(z:(bZ y).Nodup)(q:lQ y r)(h:cI x r=some b):cI x y=some b:=by refine av q λp j=>?_;subst j;rw [L1,iE]at z;rw [Gy];exact J h rfl;exact Gz λu=>z.2.2 x u x (Bm h) rfl
theorem CB(y:(bZ z).Nodup)(q:lQ z r)(h:x∈ej r):bH (c' z x)=bH r:=by refine D (Bl h) λb j u=>?_;unfold c';exact J (GA y q j) u
theorem Kt(h:dk r=some g):kI r=none:=by induction r<;>first|rfl|exact C h
theorem Ed g y:cI g (bG y)=(cI g y).map bG:=by
 refine rN (y:=λa b=>cI g b=(cI g a).map bG) rfl ?_ ?_ ?_ y;. intro s k a b x u q z _ h;exact h
 . intro l z q j _ _ _ h;refine J h ?_;conv=>{rhs;rw [fM]};exact J (Kt j) rfl
 . intro l z _ _ h;refine J fM (J (fM (z:=z)) ?_);split;. rfl
   . exact h
theorem DR k x y:fG k.b x y=!fG k x y:=by induction k<;>simp [hU.b,fG]
inductive xP(y:List A)(q j:List A)(s:dM):Prop|a(z:_)(_:bH q=bH z)(_:j=bG z)(_:lQ y z)
theorem FE(h:lQ z (l::r)):lQ z r:=by refine av h λp y=>?_;exact J y ⟨p++[l],by simp⟩
theorem pu:cR z (.b k a b g) r s=if fG k (aG s.a a.a) (aG s.a b.a)then .a (c' z g) s else .a r s:=rfl
theorem P1(n:(bZ y).Nodup)s:∀r,lQ y r->jR y (bG y) (xP y) r (bG r) s:=by intro Y;induction Y with|nil=>intro O;exact J xf (.c rfl rfl)|cons l r Q=>
intro e;have h:=λg=>Ed g y;have U:=λg=>nS h rfl g;have G:∀g,xP y (c' y g) (bG (c' y g)) s:=λg=>⟨_,rfl,rfl,Al y g⟩
have w:=FE e;induction o:ie l.2 with|none=>
have d:jY l.2=false/\dk l.2=none:=by clear e;obtain⟨s,q⟩:=l;induction q with|a i=>exact C o.symm|_=>exact⟨rfl,rfl⟩
refine J (pU (xA d.1) (by unfold hj;(exact J d.2 rfl))) ?_;exact(Q w).e (ju o) (ju o)|some i=>
have c:=lH (z:=r) o
induction f:ge (l::r)with|some q=>
refine J (vl f) (ja (EW f) λW k a m x D=>?_);refine bB D λF g z M P=>?_;subst M;refine ae P λT R=>?_;subst T;refine ae R λV K=>?_;subst V;obtain rfl:=ag o;refine J List.drop_succ_cons (J qy ?_);have p:=FE w;have t:bH ((0,an.a (.b k.b a m g))::bG z)=some (.b k.b a m g,bG z):=rfl;refine ia (b:=fG k (aG s.a a.a) (aG s.a m.a)) (λu=>?_) λu=>?_
. refine .a _ _ _ _ (c' y x) (bG z) s c t ?_ ?_ ⟨z,CB n p K,rfl,p⟩;. refine J pu (J u ?_);rfl
  . refine J pu (J (DR _ _ _) ?_);exact J u rfl
. refine .g _ (.e g) _ _ _ ((F,.a (.e g))::z) (c' (bG y) g) z (c' y g) c ?_ rfl rfl t ?_ (by exact J (U _) (G g));. refine J pu (J u ?_);rfl
  . refine J pu (J (DR _ _ _) ?_);exact J u rfl|none=>induction v:hj l r with
|true=>refine J (vj f v) ?_;obtain⟨_,_,g,d,B⟩:=Cg v;have Z:=CB n w B;clear v f e;obtain⟨W,q⟩:=l;induction q with
 |a j=>cases o;induction i with|e E=>obtain rfl:=ag d;exact .b _ _ _ _ c rfl rfl ⟨r,Z,rfl,w⟩|b k a m E=>
cases d;refine ia (b:=fG k (aG s.a a.a) (aG s.a m.a)) (λu=>?_) λu=>?_;. exact .b _ _ (c' y g) _ c (by refine J pu (J u ?_);rfl) rfl ⟨r,Z,rfl,w⟩
. exact .b _ _ r _ c (by refine J pu (J u ?_);rfl) rfl ⟨r,rfl,rfl,w⟩|_=>exact C d
 |_=>exact C d
|false=>exact J (pU f v) (pS h rfl c (lH o) (λO=>⟨r,rfl,rfl,w⟩) (λq I=>⟨q,rfl,rfl,I⟩))
theorem Pb(y:(bZ z).Nodup):jf z (bG z):=rK (y:=xP z) (λO r w s O O q=>by obtain⟨j,h,rfl,u⟩:=q;exact(P1 y s j u).e h rfl) (by exact J (nS (λg=>Ed g z) rfl _) ⟨_,rfl,rfl,Al _ _⟩)
theorem Jp k v z:∀d:ht,bD (fh d k v) z=if k=z then some v else bD d z:=by intro u;induction u with
|nil=>
unfold fh bD;refine J iB ?_;by_cases h:k=z;. simp [h]
. simp [h]|cons e d y=>
have y:=y;refine J oe ?_;by_cases j:e.1=k
. refine J (if_pos j) ?_;unfold bD;refine J iB ?_;refine J iB ?_;refine J j ?_;by_cases h:k=z;. simp [h]
  . simp [h]
. refine J (if_neg j) ?_;unfold bD at y⊢;refine J iB ?_;refine J iB ?_;by_cases h:e.1=z;. have:¬k=z:=λq=>j (h.trans q.symm);simp [h,this]
  . simp only [h,decide_false];exact y
theorem LM{a}(h:0<=a/\a<4294967296){j k:Nat}(z:j<4)(y:k<4):(aD.b ((a+(j:Int))%4294967296)=aD.b ((a+(k:Int))%4294967296))↔j=k:=by have s:∀i:Nat,i<4->(i:Int)%4294967296=i:=λi q=>Int.emod_eq_of_lt (fw i) (cY.mpr (lX q (by decide)));refine J (aD.b.injEq _ _) ⟨λe=>?_,λe=>e▸rfl⟩;rw [Int.add_comm a,Int.add_comm a]at e;exact Int.ofNat_inj.mp ((s j z).symm.trans (((Int.emod_add_cancel_right a).mp e).trans (s k y)))
theorem tX m(h:0<=a/\a<4294967296)(y:k<4):∀n,n<=4->k<n->kC (gx m a x n) a k=x/256^k%256:=by intro u;induction u with|zero=>intro O z;exact absurd z (jm _)|succ n g=>
intro j z;refine(?_:(match(bD (fh (gx m a x n) (.b ((a+(n:Int))%4294967296)) (.b (x/256^n%256))) (.b ((a+(k:Int))%4294967296))).getD _ with|.b b=>b|_=>0)=_);refine J (Jp _ _ _ _) ?_;by_cases e:n=k;. clear z y;refine J e ?_;exact J (if_pos rfl) rfl
. exact J (if_neg (λq=>e ((LM h (j) y).mp q))) (g (bC j) (Nat.lt_of_le_of_ne (eB z) λq=>e q.symm))
theorem M2{x z y q a b c:Int}(j:z+256*a=x)(u:y+256*b=a)(g:q+256*c=b):0+z*1+y*256+q*65536+c*16777216=x:=by lia
theorem G1{x:Int}(y:0<=x)(q:x<4294967296):0+x/1%256*1+x/256%256*256+x/65536%256*65536+x/16777216%256*16777216=x:=by
 have z:x/65536=x/256/256:=(Int.ediv_ediv_of_nonneg (x:=x) (y:=256) (z:=256) (by decide)).symm;have j:x/16777216=x/256/256/256:=by exact J (aN z) ((Int.ediv_ediv_of_nonneg (x:=x) (y:=65536) (z:=256) (by decide)).symm)
 have u:x/16777216%256=x/16777216:=Int.emod_eq_of_lt (Int.ediv_nonneg y (by decide)) (Int.ediv_lt_of_lt_mul (by decide) q);refine J u (J z ?_);refine J j ?_;(refine J (Int.ediv_one _) ?_);exact M2 (yi _ _) (yi _ _) (yi _ _)
theorem Rr m(h:0<=a/\a<4294967296)(z:nD x):he (gx m a x 4) a 4=x:=by have y:=tX m (x:=x) h (k:=0) (by decide) 4 (by decide) (by decide);have q:=tX m (x:=x) h (k:=1) (by decide) 4 (by decide) (by decide);have j:=tX m (x:=x) h (k:=2) (by decide) 4 (by decide) (by decide);have u:=tX m (x:=x) h (k:=3) (by decide) 4 (by decide) (by decide);refine(?_:0+kC (gx m a x 4) a 0*256^0+kC (gx m a x 4) a 1*256^1+kC (gx m a x 4) a 2*256^2+kC (gx m a x 4) a 3*256^3=x);refine J y (J q ?_);refine J j (J u ?_);refine ae z λg w=>?_;have o:256^0=1:=rfl;have d:256^1=256:=rfl;have c:256^2=65536:=rfl;have f:256^3=16777216:=rfl;refine J o (J d ?_);refine J c (J f ?_);exact G1 g w
theorem BU(z:b.length=32)(y:c.length=32)(h:∀r,aG b r=aG c r):b=c:=by refine List.ext_getElem (by refine z.trans (J y ?_);rfl) λr q j=>?_;have:=h r;unfold aG at this;rw [hY,hY,cH q,cH j]at this;exact this
theorem zz b r v:(dY b r v).length=b.length:=by exact fZ.trans fZ
theorem zA{v}(h:oR b)(z:r<32)(e:r=0\/v%4294967296=aG b r):dY b r v=b:=by
 refine BU (by exact(zz _ _ _).trans h.a) h.a λk=>?_;refine(mn h.a z).trans ?_;split;. rename_i q;refine J q (J h.d ?_);rfl
 . split
   . rename_i q;clear z;subst q;refine e.elim (λe=>?_) λe=>?_;. lia
     . exact e
   . rfl
structure kW(z:db)(b:List Int):Prop where
c:(z.map (λO=>O.1)).Nodup
d:∀e∈z,aG b e.1=e.2
theorem LQ{y}{v}(h:cf y r=some v):(r,v)∈y:=by unfold cf at h;refine D (fI.mp h) λe z q=>?_;have:=List.find?_some z;have j:=yb z;clear z;obtain⟨a,b⟩:=e;simp at this q;clear h;subst this q;exact j
theorem kW.a{z}{v}(h:kW z b)(e:cf z r=some v):aG b r=v:=h.d _ (LQ e)
theorem rF(h:oR b):kW [(0,0)] b:=⟨by simp,λe z=>by exact J (bF.mp z) h.d⟩
theorem wo z r:(eO z r).Sublist z:=by induction z with|nil=>exact List.Sublist.refl _|cons e z y=>
refine J uE ?_;split;. exact List.sublist_cons_self _ _
. exact y.cons_cons _
theorem uF{y}(h:(y.map (λO=>O.1)).Nodup):∀e∈eO y r,e.1≠r:=by induction y with|nil=>intro e z;cases z|cons x y u=>
rw [dU,hX]at h;intro e z;rw [uE]at z;split at z;. rename_i j;intro q;exact h.1 (by refine J j (J (aN q) ?_);exact cG.mpr ⟨e,z,rfl⟩)
. rename_i j;refine dF z ?_ λz=>?_;. exact j
  . exact u h.2 e z
theorem CX{z}{v}(h:∀e∈z,e.1≠r):jn z r v=z++[(r,v)]:=by induction z with|nil=>rfl|cons e z y=>refine J wq (J (if_neg (h e (.head _))) ?_);exact J (y λx q=>h x (.tail _ q)) rfl
theorem PW{i}{r:Nat}(h:cD i=(r:Int)):fU i=true/\gF i=false/\dZ i=r:=by have z:∀{n:Nat},(n=(r:Int))->n=r:=λq=>oK q;induction i<;>first|exact⟨rfl,rfl,z h⟩|(exfalso;have h:(-1:Int)=r:=h;lia)|(exfalso;have h:(-2:Int)=r:=h;lia)
theorem tO(h:fU i=true)s:pi i s=b_ i s:=by induction i<;>first|rfl|exact am h
theorem vF(h:fU i=true)z r s:cR z i r s=.a r (b_ i s):=by induction i<;>first|rfl|exact am h
theorem Ci i:dZ i<32:=by induction i<;>first|exact kb _|(refine(?_:(6:Nat)<32);decide)|(refine(?_:(0:Nat)<32);decide)
theorem E9{z}{y}{s:dM}{a}{v}(g:kW y s.a)(h:fV z y=some (a,v)):fU z=true/\gF z=false/\dZ z=a/\cD z=(a:Int)/\v=ea z s.a s.c%4294967296:=by induction z with
|i j n=>exact lv h ⟨rfl,rfl,rfl,rfl,rfl⟩|d j x n=>have h:((cf y x.a).map λv=>(j.a,(v+n.a)%dg))=some (a,v):=h;induction q:cf y x.a with|none=>replace h:=q▸h;exact C h|some u=>replace h:=q▸h;refine lv h ⟨rfl,rfl,rfl,rfl,?_⟩;refine(?_:(u+n.a)%dg=(aG s.a x.a+n.a)%4294967296);exact J (g.a q) rfl
|_=>exact C h
theorem JM(h:cD i=-1)s:(pi i s).a=s.a:=by induction i<;>first|rfl|exact absurd (show 6=-1 from h) (by decide)|exact absurd (show(-2)=-1 from h) (by decide)|(exfalso;have h:((_:Nat):Int)=-1:=h;omega)
theorem BF(z:df k s)(q:k<=1000):df (k+1) (pi i s):=by
 refine ia (b:=fU i) (λy=>?_) λy=>?_;. exact J (tO y _) (qM z)
 . induction i<;>first|exact z.f|exact zN z q|exact am y.symm
theorem CP{u}(o:df k s)(l:k<=1000)(w:kW u s.a):kW (ei i u) (pi i s).a:=by
 unfold ei;rcases PV i with e|e|⟨r,e⟩;. exact J (if_pos e) (rF (BF o l).a)
 . refine J (if_neg (by lia)) (J (if_neg (by lia)) ?_);exact J (JM e _) w
 . refine bk (PW e) λn h f=>?_;refine J (if_neg (by lia)) (J (tO n _) ?_);refine J (tA h _) (J f ?_);dsimp only;have c:r<32:=by exact J f.symm (Ci i)
   by_cases m:r=0;. refine J (if_neg (by lia)) (J (zA o.a c (.inl m)) ?_);exact w
   . refine J (if_pos (by lia)) (J e ?_);refine J (Int.toNat_natCast _) ?_;have d:((eO u r).map (λO=>O.1)).Nodup:=w.c.sublist ((wo u r).map _);have g:=uF (r:=r) w.c;have z:∀e∈eO u r,aG (dY s.a r (ea i s.a s.c)) e.1=e.2:=λx j=>by
      have p:=w.d x ((wo u r).subset j);refine(mn o.a.a c).trans (J (if_neg (g x j)) ?_);split;. rename_i q;refine J p.symm (J q ?_);exact J o.a.d rfl
      . exact p
     induction Z:fV i u with|none=>exact⟨d,z⟩|some t=>
obtain⟨a,v⟩:=t;refine hQ (E9 w Z) λO O C O Y=>?_;dsimp only;refine J (CX g) ⟨?_,λx j=>?_⟩;. refine J fz (J (propext iE) ?_);refine⟨d,by simp,λa Q b U=>?_⟩;refine D (cG.mp Q) λy G W=>?_;refine J W.symm ?_;rw [bF.mp U];exact g y G
. rcases cr.mp j with j|j;. exact z x j
  . rw [bF.mp j];refine(mn o.a.a c).trans ((if_neg m).trans ?_);refine(if_pos rfl).trans (J Y ?_);rfl
def qU(z:Option (Nat×aQ))(s:dM):Prop:=∀y v m,z=some (y,.c .c v m)->he s.c (cL m s.a) 4=aG s.a v.a
theorem Q_ m b:0<=cL m b/\cL m b<4294967296:=⟨ku _ (by decide),m' _ (by decide)⟩
theorem An(z:df k s):qU (some (x,i)) (pi i s):=by intro y v m e;exact Qe e (Rr s.c (Q_ m s.a) (z.a.c v.a))
theorem tl s:qU none s:=λO O O e=>C e
theorem DL{z}(w:df k s)(y:qU z s):bL x i z=(x,i)\/(fU i=true/\fU (bL x i z).2=true/\b_ i s=b_ (bL x i z).2 s):=by
 refine(vr x i z).elim (λe=>?_) λq=>?_;. exact .inl e
 . refine iq q λd v m o j u=>?_;subst j;refine ae u λg e=>?_;subst g;refine .inr ⟨rfl,by rw [e];rfl,?_⟩;refine J e (?_:({s with a:=dY s.a d.a (he s.c (cL m s.a) 4)}:dM)={s with a:=dY s.a d.a (aG s.a v.a+0)});refine J (y _ _ _ rfl) (J (Int.add_zero _) ?_);rfl
theorem Ld(w:df k s)(h:ho i=true):fU i=true/\b_ i s=s:=by
 have g:∀(z:cT)(v:Int),(z.a=0\/v%4294967296=aG s.a z.a)->({s with a:=dY s.a z.a v})=s:=λz v e=>by rw [zA w.a (kb z) e]
 have j:∀r,aG s.a r%4294967296=aG s.a r:=λr=>Int.emod_eq_of_lt (w.a.c r).1 (w.a.c r).2;induction i with
|d z a n=>
 refine⟨rfl,g z _ ?_⟩;have h:((z.a==a.a||z.a==0)&&(n.a==0||z.a==0))=true:=h;simp only [Bool.and_eq_true,Bool.or_eq_true,beq_iff_eq]at h;by_cases y:z.a=0;. exact .inl y
 . refine .inr ?_;obtain⟨q|q,u|u⟩:=h;. refine(?_:(aG s.a a.a+n.a)%4294967296=_);rw [u];refine J (Int.add_zero _) ?_;rw [<-q,j]
   . exact absurd u y
   . exact absurd q y
   . exact absurd q y|g o z a b=>
 induction o with|a=>
refine⟨rfl,g z _ ?_⟩;have h:((z.a==a.a||z.a==0)&&(b.a==0||z.a==0))=true:=h;simp only [Bool.and_eq_true,Bool.or_eq_true,beq_iff_eq]at h;by_cases y:z.a=0;. exact .inl y
. refine .inr ?_;obtain⟨q|q,u|u⟩:=h;. refine(?_:(aG s.a a.a+aG s.a b.a)%4294967296=_);rw [u,w.a.d];refine J (Int.add_zero _) ?_;rw [<-q,j]
  . exact absurd u y
  . exact absurd q y
  . exact absurd q y|_=>exact am h
|_=>exact am h
theorem LW{y}(u:df k s)(q:kW y s.a)(h:gg i y=true):fU i=true/\b_ i s=s:=by
 unfold gg at h;refine fC (o:=fV i y) (λz=>?_) λt z=>?_;. rw [z]at h;exact am h
 . obtain⟨a,v⟩:=t;rw [z]at h;simp only [Bool.and_eq_true,decide_eq_true_eq,beq_iff_eq]at h;refine hQ (E9 q z) λg w j O o=>?_;refine⟨g,?_⟩;rw [tA w];refine J j ?_;rw [zA u.a (by rw [<-j];exact Ci i) (.inr (by rw [<-o,q.a h.2]))]
theorem Ot{w}(z:df k s)(o:kW w s.a)(c:u.a=d.a)(f:g.a=d.a)(p:0<d.a)(t:cf w d.a=some ((m.a*4096%dg+q.a)%dg)):b_ (.d u g q) (b_ (.i d m) s)=s:=by
 have v:=o.a t;have b:=A2 (r:=d.a) (v:=m.a*4096) z.a (kb d);refine(?_:({s with a:=dY (dY s.a d.a (m.a*4096)) u.a (aG (dY s.a d.a (m.a*4096)) g.a+q.a)}:dM)=s);have:dY (dY s.a d.a (m.a*4096)) u.a (aG (dY s.a d.a (m.a*4096)) g.a+q.a)=s.a:=by
  refine J c (J f ?_);refine BU (by refine(zz _ _ _).trans ((zz _ _ _).trans ?_);exact z.a.a) z.a.a λr=>?_;have e:aG (dY s.a d.a (m.a*4096)) d.a=m.a*4096%4294967296:=by refine(mn z.a.a (kb d)).trans ((if_neg (iG p)).trans ?_);exact(if_pos rfl)
  refine J e ?_;(refine J (mn b.a (kb d)) (J (mn z.a.a (kb d)) ?_));by_cases y:r=0;. refine(if_pos y).trans (J y ?_);exact J z.a.d rfl
  . refine(if_neg y).trans (J (if_neg y) ?_);by_cases j:r=d.a;. (refine(if_pos j).trans ?_);refine J j (J v ?_);rfl
    . exact(if_neg j).trans (if_neg j)
 exact J this rfl
theorem DP g j u w:cI g (b' j u w)=(cI g w).map gP:=by
 refine rC (u:=λj u a b=>cI g b=(cI g a).map gP) ?_ ?_ ?_ ?_ ?_ ?_ j u w;. intro _ _;rfl
 . intro j u l z _ y;refine fM.trans (J (fM (z:=z)) ?_);split;. rfl
   . exact y
 . intro j u l z o c y;refine fM.trans (J (fM (z:=z)) ?_);rw [if_neg,if_neg];. exact y
   . intro q;clear o;obtain⟨s,r⟩:=l;induction r<;>first|(exact C q;done)|(exact am c.symm;done)
   . intro q;clear o;obtain⟨s,r⟩:=l;induction r<;>first|(exact C q;done)|(exact am c.symm;done)
 . intro j u s d m f p t q z _ _ _ _ y;exact y
 . intro j u s i z _ _ y;exact y
 . intro j u s i z _ _ y;exact y
inductive xO(q j:List A)(s:dM):Prop|a(z y:_)(_:j=b' z y q)(_:kW z s.a)(_:qU y s)
theorem vW o(j:df k s)(t:k<=1000):∀(q:List A)(u:db)(y:Option (Nat×aQ)),kW u s.a->qU y s->jR o (gP o) xO q (b' u y q) s
|[],u,y,_,_=>by exact J vY (.c rfl rfl)|l::q,u,y,c,r=>by
 have W:=λg=>DP g [(0,0)] none o
 have D:∀q,xO q (gP q) s:=λq=>⟨_,_,rfl,rF j.a,tl s⟩;induction h:dD l.2 with|false=>
refine(v_ h).elim (λZ=>?_) λv=>?_
. refine J (vu Z) (fC (o:=ie l.2) (λb=>?_) λi b=>?_);. exact(vW o j t q _ _ (rF j.a) (tl s)).e (ju b) (ju b)
  . exact pS (f:=gP) W rfl (lH b) (lH b) (λO=>(λq i=>⟨_,_,rfl,rF (BF j t).a,tl _⟩) q i) (λq O=>D q)
. refine ae v λY Z=>?_;refine J (vw Y Z) ?_;exact(vW o j t q u y c r).e (ju (u' Y)) (ju (u' Y))|true=>refine go (pz h) λx i V=>?_;refine J V ?_;have a:bH ((x,an.a i)::q)=some (i,q):=rfl;refine J vv ?_;induction n:fA i (q.head?.map (λO=>O.2)) u with
|true=>refine J (if_pos rfl) ?_;clear h;refine ja (EY n) λd m F M z K=>?_;refine ae K λB E=>?_;subst B;refine hQ E λw Q I L N=>?_;clear n;induction q using List.casesOn with|nil=>exact C w|cons S P=>obtain⟨H,X⟩:=S;have w:some X=some (an.a (.d F M z)):=w;clear w;obtain rfl:=ag w;exact .f _ (.d F M z) _ _ P P _ (b_ (.i d m) s) a rfl rfl rfl (by refine(vF rfl _ _ _).trans (J (Ot j c I L Q N) ?_);rfl) rfl ⟨u,y,rfl,c,r⟩
|false=>
refine J (if_neg (by decide)) ?_;induction p:(ho (bL x i y).2||gg (bL x i y).2 u)with|true=>
 refine J (if_pos rfl) ?_;have U:fU (bL x i y).2=true/\b_ (bL x i y).2 s=s:=by
  rw [nq]at p;refine p.elim (λp=>?_) λp=>?_;. exact Ld j p
  . exact LW j c p
 have T:fU i=true/\b_ i s=s:=by
  refine(DL (x:=x) (i:=i) j r).elim (λe=>?_) λv=>?_;. rw [e]at U;exact U
  . refine bk v λG O w=>?_;exact⟨G,w.trans U.2⟩
 exact .b _ _ q _ a (by refine(vF T.1 _ _ _).trans (J T.2 ?_);rfl) rfl ⟨u,y,rfl,c, r⟩|false=>
refine J (if_neg (by decide)) ?_;have f:bH (((bL x i y).1,an.a (bL x i y).2)::b' (ei (bL x i y).2 u) (some (bL x i y)) q)=some ((bL x i y).2,b' (ei (bL x i y).2 u) (some (bL x i y)) q):=rfl;refine(DL (x:=x) (i:=i) j r).elim (λe=>?_) λv=>?_;. rw [e]at f⊢;exact pS (f:=gP) W rfl a f (λO=>⟨_,_,rfl,CP j t c,An j⟩) (λq O=>D q)
. refine bk v λG w Q=>?_;have R:=vF G o q s;rw [Q]at R;refine .a _ _ _ _ _ _ _ a f R (vF w (gP o) (b' (ei (bL x i y).2 u) (some (bL x i y)) q) s) ⟨_,_,rfl,?_,?_⟩;. exact J (tO w _).symm (CP j t c)
  . refine J (tO w _).symm ?_;have:bL x i y=((bL x i y).1,(bL x i y).2):=rfl;exact J this (An j)
theorem O' z:jf z (gP z):=rK (y:=xO) (λk r d s y q j=>by obtain⟨K,u,rfl,w,o⟩:=j;exact vW z q y r K u w o) (by rw [nS (z:=gP z) (λg=>DP g [(0,0)] none z) rfl];exact⟨_,_,rfl,rF w'.a,tl _⟩)
theorem Pc{q}(g:fW q z):jf z (cF z):=by
 have y:(bZ (bE false z)).Nodup:=by refine J (Ex _) (J g.b ?_);exact g.d
 have j:(bZ (cO (bE false z))).Nodup:=by exact J (MU _) y
 exact(O_ z).m ((O9 y).m ((Pb j).m (O' _)))
theorem Pa z:jf z z:=rK (y:=λr y O=>y=r) (λk r y s O O q=>by
have q:y=r:=q;clear q;subst q;have j:∀g,cI g z=(cI g z).map λr=>r:=λg=>by induction cI g z<;>rfl
refine fC (o:=bH y) (λh=>?_) λp h=>?_;. exact .c h h
. exact pS (f:=λr=>r) j rfl h h (λO=>rfl) (λO O=>rfl)) rfl
theorem Pd{q}(h:jT y z)(g:fW q y):jf y z:=by induction h with|b=>exact Pa _|a h j=>exact j.m (Pc (wW h g))
theorem HQ(h:i∈cV z):∃l∈z,iw l.2=.a i:=by induction z with
|nil=>cases h
|cons l z g=>rw [jF]at h;induction y:iw l.2 with|a j=>
rw [y]at h;refine dF h ?_ λh=>?_;. exact⟨l,.head _,y⟩
. refine D (g h) λx q u=>?_;exact⟨x,.tail _ q,u⟩|_=>rw [y]at h;refine D (g h) λx q u=>?_;exact⟨x,.tail _ q,u⟩
theorem Fk(h:g∈bZ y):∃k,er (dm y 0) g=some k:=by
 refine(q_ g y 0).elim (λq=>?_) λq=>?_;. refine ae q λO z=>?_;exfalso;rw [<-C1 y 0]at h;refine D (cG.mp h) λe j u=>?_;subst u;unfold er at z;rw [x_,sF]at z;exact z e j (by simp)
 . refine bP q λO O O O z=>?_;exact⟨_,z⟩
theorem N4{o}(g:fW o u):th ⟨cV u,dm u 0⟩:=by
 have q:∀i∈cV u,∃l∈u,l.2=.a i\/∃d,i=.d d d .d:=λi y=>by refine D (HQ y) λl j z=>?_;refine⟨l,j,?_⟩;obtain⟨s,r⟩:=l;induction r<;>first|(cases z;exact .inl rfl)|((clear y;cases z);exact .inr ⟨_,rfl⟩)|cases z
 refine⟨λi y=>?_,λi y x w=>?_⟩
 . obtain⟨l,j,z|⟨d,rfl⟩⟩:=q i y;. exact J (aN z) (g.a l j)
   . rfl
 . obtain⟨l,j,z|⟨d,rfl⟩⟩:=q i y;. exact Fk (by exact J g.b (g.e l j x (by refine J z ?_;exact w)))
   . exact C w
theorem A_ w n(h:53<n){y}(g:fW y z)(u:hn∈y)q:I w n 53 [ah (z.map λl=>l.2.b l.1)] q=some (Ck (mE z 100),q):=by refine av (Fk (y:=z) (g:=hn) (by rw [g.b];exact u)) λo j=>?_;refine J (If w n h z g.c g.a (by rw [g.b];exact g.d) (N4 g) j _) (J (Qo j) ?_);rfl
noncomputable def cx:an->B|.a _=>[99,111,100,101]|.d _=>[108,97,98,101,108]|.g=>[115,107,105,112]|.f _=>[115,107,105,112]|.e _=>[111,116,104,101,114]|.c _=>[111,116,104,101,114]
def bV(z:List A):V:=.d (z.map λl=>.a (cx l.2))
def bY(z:List A):V:=.d (z.map λl=>ah (fS (l.2.b l.1)))
theorem FG{l:B}:ce l none (some 5)=l.take 5:=pW l 5
theorem DY{t:B}(h:c∉t):t.contains c=false:=by rw [Bool.eq_false_iff];exactλq=>h (hZ.mp q)
section
variable(z:(dI ca t==[])=false)(j:(ce (dI ca t) none (some 5)==[46,108,111,99,32])=false)(q:(dI ca t).contains 35=false)(u:bM (dI ca t) (-1)=some b)
include z j q u
theorem LJ(g:(([b]:B)==[58])=false)(o:bM (dI ca t) 0=some y)(d:(([y]:B)==[46])=false):bu (aI aj (I w 54) w yN (cu qO [.a t]) []) (.a [99,111,100,101]) []:=aK ((as z) ((as j) ((as q) ((N (yu.trans (aJ (Option.map λc=>V.a [c]) u))) ((as g) ((N (yu.trans (aJ (Option.map λc=>V.a [c]) o))) ((as d) rfl)))))))
theorem LK(y:(([b]:B)==[58])=true):bu (aI aj (I w 54) w yN (cu qO [.a t]) []) (.a [108,97,98,101,108]) []:=aK ((as z) ((as j) ((as q) ((N (yu.trans (aJ (Option.map λc=>V.a [c]) u))) ((aZ y) rfl)))))
end
theorem IA w n(h:54<n)s i(g:bA (.a i)=true)c:I w n 54 [.a ((an.a i).b s)] c=some (.a [99,111,100,101],c):=by
 have z:=Fj (s:=s) g;have j:dI ca ((an.a i).b s)=dz s i:=by refine J (lw _ _) ?_;simpa using(sb (v:=[]) (mQ s) (λO h=>absurd h fY) z)
 have t:=lz (s:=s) g (c:=35) (by decide) (by decide) (by decide);refine gN (DT i) λx y O o O f=>?_;have u:∃r,dz s i=y::r:=by unfold dz;induction d:i.a using List.casesOn with|nil=>exact C (d▸o)|cons a q=>rw [d,xr]at o;clear d;exact J (ag o) ⟨_,rfl⟩
 refine av u λr u=>?_;refine se z λO p b m O=>?_;have v:b≠58:=λe=>(lz (s:=s) g (c:=58) (by decide) (by decide) (by decide)) (by refine J m (J e ?_);simp);have k:bM (dz s i) (-1)=some b:=by exact J m (mA p b)
 have l:bM (dz s i) 0=some y:=by exact J u (xr y r)
 have Z:((dz s i).take 5==[46,108,111,99,32])=false:=by refine J u (J (propext dA) ?_);intro e;exact f (jJ e).1
 have Y:((dz s i)==[])=false:=by exact J u rfl
 exact ct (f:=qO) h rfl (by decide) rfl rfl rfl (z:=[]) (v:=.a [99,111,100,101]) (LJ (b:=b) (y:=y) (by exact J j Y) (by refine J j (J FG ?_);exact Z) (by exact J j (DY t)) (by exact J j k) (dA.mpr (by simp [v])) (by exact J j l) (dA.mpr (by simp [f]))) rfl
theorem IB w n(h:54<n)g(y:dn g=true)q:I w n 54 [.a (g++[58])] q=some (.a [108,97,98,101,108],q):=by
 have z:=vL (CZ y);have j:∀c,iL c=false->c≠58->c∉g++[58]:=λc u o=>by refine J (propext cr) (J (propext not_or) ?_);refine J (propext bF) ?_;exact⟨iW (iX y) u,o⟩
 have d:=j 35 (by decide) (by decide);have f:bM (g++[58]) (-1)=some 58:=mA g 58;have m:((g++[58]).take 5==[46,108,111,99,32])=false:=dA.mpr λe=>(j 32 (by decide) (by decide)) (sO (by refine J e ?_;simp:32∈(g++[58]).take 5));exact ct (f:=qO) h rfl (by decide) rfl rfl rfl (z:=[]) (v:=.a [108,97,98,101,108]) (LK (b:=58) (by exact J z (dA.mpr (by simp))) (by refine J z (J FG ?_);exact m) (by exact J z (DY d)) (by exact J z f) rfl) rfl
theorem A5 w n(h:54<n)(l:A)(z:bA l.2=true)y:I w n 54 [.a (l.2.b l.1)] y=some (.a (cx l.2),y):=by
 obtain⟨s,r⟩:=l;have q:∀r:an,(∀k,k<=2->I w n 54 [.a (r.b k)] y=some (.a (cx r),y))->I w n 54 [.a (r.b s)] y=some (.a (cx r),y):=λr o=>by refine D (nI s) λk u e=>?_;exact J (e _) (o k u)
 induction r with
|a i=>exact IA w n h s i z y|d c=>exact IB w n h c z y|g=>refine J (dx h) ?_;kernel_rfl|f b=>
refine q _ λk u=>?_;refine J (dx h) ?_;rcases k with _|_|_|k;. clear z;induction b<;>kernel_rfl
. clear z;induction b<;>kernel_rfl
. clear z;induction b<;>kernel_rfl
. lia|e j=>
refine q _ λk u=>?_;refine J (dx h) ?_;rcases k with _|_|_|k;. clear z;induction j<;>kernel_rfl
. clear z;induction j<;>kernel_rfl
. clear z;induction j<;>kernel_rfl
. lia|c j=>
refine q _ λk u=>?_;refine J (dx h) ?_;rcases k with _|_|_|k;. clear z;induction j<;>kernel_rfl
. clear z;induction j<;>kernel_rfl
. clear z;induction j<;>kernel_rfl
. lia
theorem zL w n(h:56<n)i z:I w n 56 [bQ i] z=some (.h (d' (.a i)),z):=by refine J (dx h) ?_;induction i with|g o=>induction o<;>kernel_rfl|c o=>induction o<;>kernel_rfl|f o=>induction o<;>kernel_rfl|b o=>induction o<;>kernel_rfl|_=>kernel_rfl
section
variable{p:Nat}
theorem rq(h:z[p]?=some l):a_ y (bV z) (.b (p:Int))=some (.a (cx l.2)):=by refine(lm (z:=z.map λl=>.a (cx l.2)) rfl).trans ((ik _ _).trans ?_);refine J hw ?_;exact J h rfl
theorem j'(h:z[p]?=some l):a_ y (bY z) (.b (p:Int))=some (ah (fS (l.2.b l.1))):=by refine(lm (z:=z.map λl=>ah (fS (l.2.b l.1))) rfl).trans ((ik _ _).trans ?_);refine J hw ?_;exact J h rfl
theorem yv:f' y .a [bV z]=some (.b (z.length:Int)):=by refine(?_:some (V.b ((z.map _).length:Nat))=_);exact J (bU _) rfl
theorem LL r:eD (.a (cx r)) [.a [108,97,98,101,108],.a [115,107,105,112]]=some (cS r):=by induction r<;>rfl
end
theorem C0(h:z[p]?=none\/∃l,z[p]?=some l/\cS l.2=false):jt z p=[]:=by
 unfold jt;refine h.elim (λh=>?_) λy=>?_;. refine J (nd (kt.mp h)) ?_;rfl
 . refine D y λl h q=>?_;obtain⟨j,e⟩:=bo.mp h;refine J (dT j) (J e ?_);refine J qr (J q ?_);rfl
theorem L0(h:z[p]?=some l)(y:cS l.2=true):jt z p=(match l.2 with|.d x=>[x]|_=>[])++jt z (p+1):=by unfold jt;obtain⟨q,e⟩:=bo.mp h;(refine J (dT q) (J e ?_);refine J qr (J y ?_);refine J (if_pos rfl) (J (kJ _ _) ?_))<;>rfl
inductive GD(z:List A)(p m:Nat)(j:ao)(u:af):Prop|a(q y:_)(_:j=[some (bV z),some (bY z),some (.b (q:Nat)),some (.c 0)])(_:u=[ah y])(_:y++jt z q=jt z p)(_:q+eq z q=p+eq z p)(_:y.length<=q)(_:m=z.length-q)
theorem rd z:dB 0 (bV z)=true:=kz (λl=>yS _) z
theorem n_ z:dB 0 (bY z)=true:=kz (λl=>lq _) z
theorem HU{n}{l}(h:z[n]?=some (ah l)):cP 0 z (.c n)=some (ah l):=pM (jm _) (yr h) (lq l)
theorem zC w n(h:55<n)z(G:z.length<w)(a0:z.length<5000)(a1:∀l∈z,bA l.2=true)(p:Nat)(hp:p<=6000)k:I w n 55 [bV z,bY z,.b p] k=some (.g [ah (jt z p),.b ((p+eq z p:Nat):Int)],k):=by
 have L:ak=1000000:=rfl;refine ct (f:=zu) h rfl (by decide) rfl rfl (cy (rd z) (cy (n_ z) rfl)) (z:=[ah (jt z p)]) (v:=.g [.c 0,.b (p+eq z p:Nat)]) ?_ ?_
 . refine aS (s:=ab lr 0) (j:=lr.drop 1) (z:=[some (bV z),some (bY z),some (.b p),some (.c 0)]) (y:=[ah []]) (by simp [lr,zu];rfl) (i' (s:=ab lr 1) (u:=lr.drop 2) ?_);refine(?_:cA (az aj (I w 55) w (.e _ _ _) _ _) _);rw [pD];refine qe (GD z p) _ ?_ w (z.length-p) _ _ ⟨p,[],rfl,rfl,rfl,rfl,by simp,rfl⟩ (au (le (List.length z) p) G);rintro m F k⟨q,y,rfl,rfl,o,Z,e,rfl⟩;by_cases c:q<z.length
   . have x:q<(z.length:Int):=cY.mpr c;have t:z[q]?=some z[q]:=cH c;generalize z[q]=l at t;have i:=λk=>rq (y:=k) t;have u:=LL l.2;refine ia (b:=cS l.2) (λj=>?_) λj=>?_
     . rw [j]at u;refine(ax true [ah y] ⟨?_,λO=>?_,λh=>am h.symm⟩);. simp [-jV,yv,x,i,u]
       . rw [Eh t j]at Z;rw [L0 t j]at o;clear u;obtain⟨s,r⟩:=l;induction r with|d v=>
have Y:=λk=>j' (y:=k) t;have W:dn v=true:=a1 _ (cq t);have Q:fS ((an.d v).b s)=[v++[58]]:=xs W;rw [Q]at Y;have U:=(rQ v 58).2;have D:cN [ah y] .e (.c 0) [.a v]=some (.j,[ah (y++[v])]):=by rw [nW (z:=y.map .a) rfl (by rw [bU];exact bl (bl (au e c) (bC a0)) (by decide))];unfold ah;rw [fz];rfl
have C:ek [ah y] .e (.c 0)=true:=rfl;exact dj ((N (i _)) ((N (Y _)) ((H (v:=V.j) (Q:=[ah (y++[v])]) (by simp [cz,lr,i,cx,Y,hM,U,C,D])) rfl))) ⟨z.length-(q+1),ha c (aH (Nat.succ q)),q+1,y++[v],rfl,rfl,by rw [<-o];simp,by lia,by simp;exact e,rfl⟩|g=>exact dj ((N (i _)) rfl) ⟨z.length-(q+1),ha c (aH (Nat.succ q)),q+1,y,rfl,rfl,o,by lia,bX e,rfl⟩|f b=>exact dj ((N (i _)) rfl) ⟨z.length-(q+1),ha c (aH (Nat.succ q)),q+1,y,rfl,rfl,o,by lia,bX e,rfl⟩|_=>exact am j
     . rw [j]at u;refine(ax false [ah y] ⟨?_,(λh=>am h),λO=>?_⟩);. simp [-jV,yv,x,i,u]
       . rw [C0 (.inr ⟨l,t,j⟩),gX]at o;rw [uP (.inr ⟨l,t,j⟩)]at Z;clear e;refine J o ?_;simp [kx,lr];lia
   . have a:z[q]?=none:=kt.mpr (g' c);refine(ax false [ah y] ⟨?_,(λh=>am h),λO=>?_⟩);. simp [-jV,yv,(Int.not_lt_of_ge (Int.ofNat_le.mpr (Nat.le_of_not_lt c)))]
     . rw [C0 (.inl a),gX]at o;rw [uP (.inl a)]at Z;clear e;refine J o ?_;simp [kx,lr];lia
 . exact oh (HU rfl) rfl
noncomputable def jr:aQ->Bool|.d ..=>true|.i ..=>true|.g ..=>true|.c ..=>false|.f ..=>true|.b ..=>false|.e _=>false|.k=>false|.j=>false|.l=>false|.o _=>false|.p _=>false|.n _=>true|.m _=>true
def xc(r p:Nat)(o:Option Nat):an->Option Nat|.a i=>if gF i||jZ i then o else if jr i then(if dZ i=r then some p else o)else none|.d _=>none|.g=>o|.f _=>o|.e _=>none|.c _=>none
noncomputable def fr(z:List A)(r:Nat):Nat->Option Nat|0=>none|p+1=>(z[p]?).bind λl=>xc r p (fr z r p) l.2
theorem EM z r p:fr z r (p+1)=(z[p]?).bind λl=>xc r p (fr z r p) l.2:=rfl
noncomputable def qI:Option Nat->V|none=>.b (-1)|some a=>.b (a:Int)
noncomputable def yC:List V:=[.a [97,100,100],.a [115,117,98],.a [120,111,114],.a [115,108,116,117],.a [109,117,108],.a [97,100,100,105],.a [108,117,105],.a [108,119],.a [108,98],.a [108,98,117]]
theorem G4 w n(h:34<n)z:I w n 34 [] z=some (.d yC,z):=by refine J (dx h) ?_;kernel_rfl
theorem PZ i:eD (.a i.a) yC=some (jr i):=by induction i with|g o=>induction o<;>rfl|c o=>induction o<;>rfl|f o=>induction o<;>rfl|b o=>induction o<;>rfl|_=>rfl
theorem Ri i:(bD mg (.a i.a)).isSome=gF i:=by induction i with|g o=>induction o<;>kernel_rfl|c o=>induction o<;>kernel_rfl|f o=>induction o<;>kernel_rfl|b o=>induction o<;>kernel_rfl|_=>kernel_rfl
theorem FY(h:jr i=true):fU i=true/\gF i=false:=by induction i<;>first|exact⟨rfl,rfl⟩|exact am h
abbrev gm:List aY:=cz nX 0
noncomputable abbrev eP(z:List A)(p r:Nat)(y q:Option V):ao:=[some (bV z),some (bY z),some (.b (p:Int)),some (.b (r:Int)),y,q]
theorem Ju(p:Nat)(z:p<5000):gs 2 [.b ((p:Int)-1),.b (-1),.b (-1)]=some ((List.range p).map λi:Nat=>V.b ((p:Int)-1-(i:Int))):=by have L:ak=1000000:=rfl;refine(if_pos ⟨oD (by decide) (Int.sub_le_sub_right (fw p) 1),Int.lt_of_le_of_lt (Int.sub_le_self _ (by decide)) (cY.mpr (lX z (by decide))),rfl,rfl⟩).trans ?_;unfold oQ;exact J (by rw [Int.sub_neg,Int.sub_add_cancel];rfl:((p:Int)-1- -1).toNat=p) rfl
inductive AK(y:List A)(p r:Nat)(z:List Nat)(q:ao)(j:af):Prop|a(k u g:_)(_:z=(List.range p).drop k)(_:k<=p)(_:q=eP y p r u g)(_:j=[])(_:fr y r (p-k)=fr y r p)
theorem Ih w n(h:57<n)z(a3:z.length<5000)(a4:∀l∈z,bA l.2=true)(p r:Nat)(hp:p<=z.length)u:I w n 57 [bV z,bY z,.b p,.b r] u=some (qI (fr z r p),u):=by
 have fF:c_ 0 [bV z,bY z,.b p,.b r]=true:=cy (rd z) (cy (n_ z) rfl);have Z:cP 0 [] (qI (fr z r p))=some (qI (fr z r p)):=by induction fr z r p<;>(rfl)
 refine ct (f:=B4) h rfl (by decide) rfl rfl fF (z:=[]) (v:=qI (fr z r p)) ?_ Z;refine i' (s:=ab nX 0) (u:=nX.drop 1) ?_;refine J (ga (m:=[]) (z:=2) (y:=eP z p r none none) (q:=[]) (d:=eP z p r none none) (j:=[]) (c:=[]) (o:=[.b (p-1),.b (-1),.b (-1)]) (r:=rfl) (v:=fb rfl) (k:=Ju p (au hp a3))) (gr (λi:Nat=>V.b ((p:Int)-1-(i:Int))) (AK z p r) _ ?_ ?_ (List.range p) _ _ ⟨0,none,none,rfl,eT p,rfl,rfl,rfl⟩)
 . rintro ρ u⟨k,x4,D,T,Q,rfl,rfl,e⟩;have:k=p:=by have:=aJ List.length T;rw [jM,iC]at this;exact gk Q (qo this.symm)
   clear Q T Z fF hp;subst this;rw [Nat.sub_self]at e;refine J (aN e) ?_;simp [kx,nX];rfl
 . rintro a F ρ u⟨k,x4,D,T,Q,rfl,rfl,e⟩;refine ae (zc T) λz1 z2=>?_;subst z1;refine ae z2 λU G=>?_;obtain⟨q,R⟩:∃q,p-a=q+1:=⟨p-a-1,(Nat.sub_add_cancel (Nat.sub_pos_of_lt G)).symm⟩;have W:p-1-a=(q:Int):=by rw [(Nat.sub_eq_iff_eq_add (bC G)).mp R];exact(Int.sub_sub _ _ _).trans ((aJ (λx=>x-(1+(a:Int))) (Int.add_assoc q 1 a)).trans (Int.add_sub_cancel _ _))
   have Qr:q<z.length:=bl (bl (de (aN R)) (le p a)) hp;have o:z[q]?=some z[q]:=cH Qr;generalize z[q]=l at o;rw [R]at e;rw [EM]at e;rw [o]at e;have dz:=a4 _ (cq o);have y:=λu=>rq (y:=u) o;have c:=λu=>j' (y:=u) o;refine J kD (J (if_pos (by simp)) ?_);refine J W ?_;refine(?_:cA (aI aj (I w 57) w gm (eP z p r (some (.b (q:Int))) D) []) _);have j:fr z r q=fr z r p->∀JO,AK z p r F (eP z p r (some (.b (q:Int))) JO) []:=λe JO=>⟨a+1,_,_,U,G,rfl,rfl,by exact J ((Nat.sub_add_eq _ _ _).trans (aJ (λx=>x-1) R):p-(a+1)=q) e⟩;have C:=zB w 57 (by decide);have M:=lA w 57 (by decide);have P:=G4 w 57 (by decide);clear o;obtain⟨s,S⟩:=l;dsimp only at dz y c;have i0:eD (.a []) yC=some false:=rfl;have i1:(bD mg (.a [])).isSome=false:=rfl;have i2:eD (.a []) [.a [98,101,113],.a [98,110,101],.a [98,108,116],.a [98,103,101],.a [98,108,116,117],.a [98,103,101,117]]=some false:=rfl
   induction S with|a i=>
have e:(if gF i||jZ i then fr z r q else if jr i then(if dZ i=r then some q else fr z r q)else none)=fr z r p:=e;have X:fS ((an.a i).b s)=i.a::i.h:=kM s i dz;rw [X]at c;have t:=Ri i;have K:=tu i;have B:=PZ i;have d0:az aj (I w 57) w (ab gm 0) (eP z p r (some (.b (q:Int))) D) []=some (.a,eP z p r (some (.b (q:Int))) (some (.a i.a)),[]):=by exact aA ((N (y _)) ((N (c _)) rfl))
have hB:gm=ab gm 0::ab gm 1::ab gm 2::ab gm 3::[]:=rfl;refine J hB (J cU ?_);refine J d0 (J fg ?_);refine J cU ?_;by_cases v:(gF i||jZ i)=true
. replace e:=(if_pos v).symm.trans e;have A:az aj (I w 57) w (ab gm 1) (eP z p r (some (.b (q:Int))) (some (.a i.a))) []=some (.c,eP z p r (some (.b (q:Int))) (some (.a i.a)),[]):=by
   rw [nq]at v;refine ia (b:=gF i) (λE=>?_) λE=>?_;. replace t:=t.trans E;exact aA ((N (y _)) ((H (C _)) ((aZ t) rfl)))
   . have h2:jZ i=true:=v.elim (λv=>am (E.symm.trans v)) id;replace t:=t.trans E;rw [h2]at K;exact aA ((N (y _)) ((H (C _)) ((eJ (mS _ _)) ((as t) ((H (M _)) ((eJ K) rfl))))))
  refine J A (J PU ?_);exact⟨_,rfl,j e _⟩
. replace e:=(if_neg v).symm.trans e;rw [Bool.not_eq_true,ym]at v;replace t:=t.trans v.1;rw [v.2]at K;have A:az aj (I w 57) w (ab gm 1) (eP z p r (some (.b (q:Int))) (some (.a i.a))) []=some (.a,eP z p r (some (.b (q:Int))) (some (.a i.a)),[]):=by exact aA ((N (y _)) ((H (C _)) ((eJ (mS _ _)) ((as t) ((H (M _)) ((eJ K) rfl))))))
  refine J A (J fg ?_);refine J cU ?_;refine tS (b:=jr i) (λL=>?_) λL=>?_
  . rw [L]at B e;replace e:=(if_neg (by decide)).symm.trans e;have d2:az aj (I w 57) w (ab gm 2) (eP z p r (some (.b (q:Int))) (some (.a i.a))) []=some (.b (.b (-1)),eP z p r (some (.b (q:Int))) (some (.a i.a)),[]):=by exact aA ((H (P _)) ((eJ (aJ (Option.map (λO=>!O)) B)) rfl))
    refine J d2 (J pT ?_);exact⟨_,rfl,by exact J (aN e) ⟨rfl,rfl⟩⟩
  . rw [L]at B e;replace e:=(if_pos rfl).symm.trans e;have d2:az aj (I w 57) w (ab gm 2) (eP z p r (some (.b (q:Int))) (some (.a i.a))) []=some (.a,eP z p r (some (.b (q:Int))) (some (.a i.a)),[]):=by exact aA ((H (P _)) ((eJ (aJ (Option.map (λO=>!O)) B)) rfl))
    refine J d2 (J fg ?_);refine J cU ?_;refine ae (FY L) λa0 a1=>?_;refine bg (zd a0 a1) λY l ha hd=>?_;rw [ha]at c;have e9:=λu=>js (z:=u) (iZ Y);by_cases m:dZ i=r
    . replace e:=(if_pos m).symm.trans e;have d3:az aj (I w 57) w (ab gm 3) (eP z p r (some (.b (q:Int))) (some (.a i.a))) []=some (.b (.b (q:Int)),eP z p r (some (.b (q:Int))) (some (.a i.a)),[]):=by replace m:=hd.trans m;simp [gm,cz,nX,c,rV,xT,iZ,m]
      refine J d3 (J pT ?_);exact⟨_,rfl,by exact J (aN e) ⟨rfl,rfl⟩⟩
    . replace e:=(if_neg m).symm.trans e;have d3:az aj (I w 57) w (ab gm 3) (eP z p r (some (.b (q:Int))) (some (.a i.a))) []=some (.a,eP z p r (some (.b (q:Int))) (some (.a i.a)),[]):=by
       rw [<-hd]at m;have a5:¬(Y.a:Int)=(r:Int):=by lia
       simp [gm,cz,nX,c,rV,xT,iZ,a5]
      refine J d3 (J fg ?_);refine J tz ?_;exact⟨_,rfl,j e _⟩|g=>exact mN ((N (y _)) ((N (y _)) rfl)) (j e _)|f b=>exact mN ((N (y _)) ((N (y _)) rfl)) (j e _)|d a2=>
have y:∀u,a_ u (bV z) (.b (q:Int))=some (.a [108,97,98,101,108]):=y;have Y:aI aj (I w 57) w gm (eP z p r (some (.b (q:Int))) D) []=some (.b (.b (-1)),eP z p r (some (.b (q:Int))) (some (.a [])),[]):=by exact eF ((N (y _)) ((N (y _)) ((H (C _)) ((H (M _)) ((H (P _)) rfl)))))
exact J Y ⟨_,rfl,by refine J (aN e) ?_;exact⟨rfl,rfl⟩⟩|e a2=>
have y:∀u,a_ u (bV z) (.b (q:Int))=some (.a [111,116,104,101,114]):=y;have Y:aI aj (I w 57) w gm (eP z p r (some (.b (q:Int))) D) []=some (.b (.b (-1)),eP z p r (some (.b (q:Int))) (some (.a [])),[]):=by exact eF ((N (y _)) ((N (y _)) ((H (C _)) ((H (M _)) ((H (P _)) rfl)))))
exact J Y ⟨_,rfl,by refine J (aN e) ?_;exact⟨rfl,rfl⟩⟩|c a2=>
have y:∀u,a_ u (bV z) (.b (q:Int))=some (.a [111,116,104,101,114]):=y;have Y:aI aj (I w 57) w gm (eP z p r (some (.b (q:Int))) D) []=some (.b (.b (-1)),eP z p r (some (.b (q:Int))) (some (.a [])),[]):=by exact eF ((N (y _)) ((N (y _)) ((H (C _)) ((H (M _)) ((H (P _)) rfl)))))
exact J Y ⟨_,rfl,by refine J (aN e) ?_;exact⟨rfl,rfl⟩⟩
def jE:aQ->Option (B×Int)|.d _ a n=>if a.a=0 then some ([97,100,100,105],n.a)else none|.i _ n=>some ([108,117,105],n.a)|.g ..=>none|.c ..=>none|.f ..=>none|.b ..=>none|.e _=>none|.k=>none|.j=>none|.l=>none|.o _=>none|.p _=>none|.n _=>none|.m _=>none
noncomputable def mM:Option (B×Int)->V|none=>.j|some (t,z)=>.g [.a t,.b z]
theorem EP b:cP 0 [] (mM b)=some (mM b):=by induction b with|none=>rfl|some b=>rfl
theorem Lg(n:fl):37∉n.b:=by induction n<;>decide
theorem Lf(n:fl):ls n.b=some n.a:=by induction n<;>kernel_rfl
theorem Rc{l}:a_ z (ah (l++[x])) (.b (-1))=some (.a x):=by refine(lm (z:=(l++[x]).map .a) rfl).trans (J fz ?_);exact mA _ _
theorem o_ z(r:cT):a_ z (.e gQ) (.a r.b)=some (.b r.a):=by refine(?_:Option.map _ (bD gQ (.a r.b))=_);exact J (iZ _) rfl
theorem tU{z}{x}{q:fl}(h:x=q.b):f' z .b [.a x]=some (.b q.a):=by refine J h (?_:Option.map _ (ls q.b)=_);exact J (Lf _) rfl
theorem Ov{x:B}(z:(x==[108,117,105])=false)(y:(x==[97,100,100,105])=false):(!([97,100,100,105]==x||([108,117,105]==x||false)))=true:=by refine J BEq.comm (J y ?_);refine J (BEq.comm (a:=[108,117,105])) (J z ?_);rfl
theorem Hs(z:(i.a==[108,117,105])=false)(y:(i.a==[97,100,100,105])=false):jE i=none:=by induction i<;>first|rfl|exact am z.symm|exact am y.symm
theorem Cr(m:fl):List.contains m.b 37=false:=uc (Lg m)
theorem zD w n(h:58<n)(y:List A){p s:Nat}{i}(c:y[p]?=some (s,.a i))(f:bA (.a i)=true)j:I w n 58 [bY y,.b p] j=some (mM (jE i),j):=by have z:=λj=>j' (y:=j) c;have q:fS ((an.a i).b s)=i.a::i.h:=kM s i f;replace z:=q▸z;have t:c_ 0 [bY y,.b p]=true:=cy (n_ y) rfl;refine ct (f:=zv) h rfl (by decide) rfl rfl t (z:=[]) (v:=mM (jE i)) ?_ (EP _);clear t;generalize bY y=P at*;clear q f c;induction g:(i.a==[108,117,105])with
|true=>
rcases wv g with⟨d,m,rfl⟩|⟨l,rfl⟩;. exact aK ((N (z _)) ((N (z _)) ((N (z _)) ((as (Cr m)) ((N (z _)) ((N (z _)) ((N (tU rfl)) rfl)))))))
. exact aK ((N (z _)) ((N (z _)) ((N (z _)) rfl)))|false=>
induction o:(i.a==[97,100,100,105])with|true=>
rcases yE o with⟨d,a,m,rfl⟩|⟨l,rfl⟩
. refine(?_:bu _ (mM (if a.a=0 then some ([97,100,100,105],m.a)else none)) []);by_cases u:a.a=0;. exact J (if_pos u) (aK ((N (z _)) ((N (z _)) ((N (z _)) ((N (o_ _ a)) ((as (jC ((ef _).trans (ez.mpr u)))) ((N (z _)) ((as (Cr m)) ((N (z _)) ((N (z _)) ((N (tU rfl)) rfl)))))))))))
  . exact J (if_neg u) (aK ((N (z _)) ((N (z _)) ((N (z _)) ((N (o_ _ a)) ((aZ (jC ((ef _).trans (dA.mpr u)))) rfl))))))
. exact aK ((N (z _)) ((N (z _)) ((N (z _)) rfl)))|false=>exact J (Hs g o) (aK ((N (z _)) ((aZ (Ov g o)) rfl)))
theorem Iq w n(h:58<n)z y:I w n 58 [bY z,.b (-1)] y=some (.j,y):=by have q:c_ 0 [bY z,.b (-1)]=true:=cy (n_ z) rfl;refine ct (f:=zv) h rfl (by decide) rfl rfl q (z:=[]) (v:=.j) ?_ (EP none);clear q;generalize bY z=P at*;exact aK rfl
noncomputable def wm(z:db):an->db|.a i=>ei i z|.d _=>[(0,0)]|.g=>z|.f _=>z|.e _=>[(0,0)]|.c _=>[(0,0)]
noncomputable def dJ(z:List A):Nat->db|0=>[(0,0)]|p+1=>(z[p]?).elim [(0,0)] λl=>wm (dJ z p) l.2
theorem qX z p:dJ z (p+1)=(z[p]?).elim [(0,0)] λl=>wm (dJ z p) l.2:=rfl
theorem ms e(z:db)r:cf (e::z) r=if e.1=r then some e.2 else cf z r:=by
 unfold cf;refine J iB ?_;by_cases h:e.1=r;. simp [h]
 . simp [h]
theorem uG{z}(h:r≠x):cf (eO z r) x=cf z x:=by induction z with|nil=>rfl|cons e z y=>
refine J uE ?_;split;. rename_i q;rw [ms,if_neg (by rw [q];exact h)]
. refine(ms _ _ _).trans (J (ms _ _ _) ?_);rw [y]
theorem wp z r x v:cf (jn z r v) x=if r=x then some v else cf z x:=by induction z with|nil=>exact(ms _ _ _)|cons e z j=>
refine J wq ?_;split
. rename_i y;refine(ms _ _ _).trans ?_;refine J (ms _ _ _) ?_;refine J y ?_;by_cases h:r=x;. refine(if_pos h).trans ?_;refine J (if_pos h) ?_;rfl
  . refine(if_neg h).trans ?_;refine J (if_neg h) ?_;refine J (if_neg h) ?_;rfl
. rename_i y;refine(ms _ _ _).trans ?_;refine J (ms _ _ _) ?_;refine J j ?_;by_cases h:r=x;. refine J (if_pos h) ?_;refine J (if_neg (λq=>y (q.trans h.symm))) ?_;refine J (if_pos h) ?_;rfl
  . refine J (if_neg h) ?_;refine J (if_neg h) ?_;rfl
structure oV(z:db):Prop where
a:(z.map (λO=>O.1)).Nodup
b:cf z 0=some 0
theorem LP{z}(h:(z.map (λO=>O.1)).Nodup):cf (eO z r) r=none:=by refine J (propext x_) (J (propext sF) ?_);intro e y;simp [uF h e y]
theorem uH:oV [(0,0)]:=⟨hX.mpr ⟨fY,md⟩,rfl⟩
theorem Mq{z}(h:oV z):oV (ei i z):=by
 unfold ei;by_cases u:cD i=-2;. exact J (if_pos u) uH
 . refine J (if_neg u) ?_;by_cases g:cD i>0
   . refine J (if_pos g) ?_;have j:(cD i).toNat≠0:=by lia
     generalize(cD i).toNat=r at*;have q:((eO z r).map (λO=>O.1)).Nodup:=h.a.sublist ((wo z r).map _)
     induction fV i z with|some t=>
refine⟨?_,?_⟩;. refine(?_:((jn (eO z r) r t.2).map (λO=>O.1)).Nodup);refine J (CX (uF h.a)) (J fz ?_);refine J (propext iE) ?_;refine⟨q,hX.mpr ⟨fY,md⟩,λa w b o=>?_⟩;refine D (cG.mp w) λy d c=>?_;refine J c.symm (J (bF.mp o) ?_);exact uF h.a y d
. refine(wp _ _ _ _).trans ((if_neg j).trans ?_);exact(uG j).trans h.b|none=>exact⟨q,(uG j).trans h.b⟩
   . exact J (if_neg g) h
theorem tc y p:oV (dJ y p):=by induction p with|zero=>exact uH|succ p z=>refine J (qX _ _) ?_;induction y[p]? with|none=>exact uH|some l=>obtain⟨s,r⟩:=l;induction r with|a i=>exact Mq z|g=>exact z|f=>exact z|_=>exact uH
theorem CO{i}{y}{r:Nat}(q:cD i≠-2)(j:cD i≠(r:Int)):cf (ei i y) r=cf y r:=by
 unfold ei;refine J (if_neg q) ?_;split
 . have z:(cD i).toNat≠r:=by lia
   split;. refine(wp _ _ _ _).trans ((if_neg z).trans ?_);exact(uG z)
   . exact(uG z)
 . rfl
theorem CQ{i}{z}{r:Nat}(h:oV z)(y:cD i=(r:Int))(q:0<r):cf (ei i z) r=(fV i z).map (λO=>O.2):=by unfold ei;(refine J (if_neg (by lia)) (J (if_pos (by lia)) ?_));refine J y ?_;(refine J (Int.toNat_natCast _) ?_);induction fV i z with|none=>exact LP h.a|some t=>obtain⟨a,v⟩:=t;dsimp only;refine(wp _ _ _ _).trans ((if_pos rfl).trans ?_);rfl
theorem xb(h:jr i=true):cD i=(dZ i:Int):=by induction i<;>first|rfl|exact am h
theorem CU(h:(gF i||jZ i)=true):cD i=-1:=by induction i<;>first|rfl|exact am h
theorem vh(Q:0<r):∀{p a:Nat},fr y r p=some a->a<p/\∃s i,y[a]?=some (s,.a i)/\jr i=true/\dZ i=r/\cf (dJ y p) r=cf (dJ y (a+1)) r:=by intro c;induction c with|zero=>intro a h;exact C h|succ p m=>
intro a h;replace h:=(EM _ _ _).symm.trans h;have z:fr y r p=some a->cf (dJ y (p+1)) r=cf (dJ y p) r->a<p+1/\∃s i,y[a]?=some (s,.a i)/\jr i=true/\dZ i=r/\cf (dJ y (p+1)) r=cf (dJ y (a+1)) r:=λh e=>by refine kT (m h) λt s i v k n=>?_;refine ae n λx Z=>?_;exact⟨bX t,s,i,v,k,x,by exact e.trans Z⟩
induction q:y[p]? with|none=>exact C (q▸h)|some l=>
obtain⟨s,j⟩:=l;have u:dJ y (p+1)=wm (dJ y p) j:=by refine J (qX _ _) (J q ?_);rfl
replace h:=q▸h;have h:xc r p (fr y r p) j=some a:=h
induction j with|a i=>
have u:dJ y (p+1)=ei i (dJ y p):=u;by_cases w:(gF i||jZ i)=true;. exact z ((if_pos w).symm.trans h) (by refine J u (J (CO (by(refine J (CU w) ?_);exact by decide) (by(refine J (CU w) ?_);exact Int.ne_of_lt (fw r))) ?_);rfl)
. have h:=(if_neg w).symm.trans h;by_cases o:jr i=true
  . have h:=(if_pos o).symm.trans h;by_cases d:dZ i=r;. clear z;refine J (ag ((if_pos d).symm.trans h)).symm ?_;exact⟨aH (Nat.succ p),s,i,q,o,d,rfl⟩
    . have:=xb o;exact z ((if_neg d).symm.trans h) (by refine J u (J (CO (by lia) (by lia)) ?_);rfl)
  . exact C ((if_neg o).symm.trans h)|g=>exact z h (by exact J u rfl)|f b=>exact z h (by exact J u rfl)|_=>exact C h
def tV(b:B×Int):Int:=if b.1=[108,117,105]then b.2*4096%dg else b.2%dg
theorem E8{q}(h:oV q)(z:jE j=some b):fV j q=some (dZ j,tV b):=by
 induction j with|i y n=>exact J (ag z).symm rfl|d y a n=>
have z:(if a.a=0 then some ([97,100,100,105],n.a)else none)=some b:=z;by_cases u:a.a=0;. rw [if_pos u]at z;refine J (ag z).symm (?_:(cf q a.a).map (λv=>(y.a,(v+n.a)%dg))=_);refine J u ?_;rw [h.b];refine(?_:some (y.a,(0+n.a)%dg)=some (y.a,n.a%dg));exact J (Int.zero_add _) rfl
. exact C ((if_neg u).symm.trans z)|_=>exact C z
theorem CW(u:0<r)(h:fr z r p=some a)(g:z[a]?=some (s,.a j))(w:jE j=some b):cf (dJ z p) r=some (tV b):=by refine kT (vh u h) λO m i q o d=>?_;refine ae d λc f=>?_;replace q:=g▸q;cases q;have y:=qX z a;replace y:=g▸y;have y:dJ z (a+1)=ei j (dJ z a):=y;rw [f,y];rw [CQ (tc z a) (by rw [xb o,c]) u,E8 (tc z a) w];rfl
theorem GZ(y:jE i=some b)(q:0<dZ i)(j:cf (dJ z p) (dZ i)=some (tV b)):gg i (dJ z p)=true:=by unfold gg;refine J (E8 (tc z p) y) ?_;simp [q,j]
theorem Oq{n q y}(u:0<d.a)(h:fr z d.a p=some a)(f:z[a]?=some (s,.a (.d g w y)))(r:w.a=d.a)(b:q.a=y.a)(e:fr z d.a a=some c)(l:z[c]?=some (L,.a k))(x:jE k=some ([108,117,105],n.a))(Q:m.a=d.a)(G:t.a=d.a):fA (.i d n) (some (.a (.d m t q))) (dJ z p)=true:=by
 refine kT (vh u h) λO C i o Z Y=>?_;refine ae Y λJ U=>?_;replace o:=f▸o;cases o;have j:=qX z a;replace j:=f▸j;have W:fV (.d g w y) (dJ z a)=some (g.a,(tV ([108,117,105],n.a)+y.a)%dg):=by refine(?_:(cf (dJ z a) w.a).map (λv=>(g.a,(v+y.a)%dg))=_);rw [r,(CW u e l x)];rfl
 have D:cf (dJ z p) d.a=some ((n.a*4096%dg+q.a)%dg):=by have j:dJ z (a+1)=ei (.d g w y) (dJ z a):=j;rw [U,j];rw [CQ (tc z a) (by rw [xb Z,J]) u,W,b];rfl
 refine(?_:(decide (d.a>0/\m.a=d.a/\t.a=d.a)&&(cf (dJ z p) d.a==some ((n.a*4096%dg+q.a)%dg)))=true);rw [D];simp [u,Q,G]
theorem Au(h:i.a=[97,100,100,105])(z:bA (.a i)=true):∃y a x,i.h=[y.b,a.b,x]/\x.length<=60/\(37∈x\/∃q,i=.d y a q/\x=q.b):=by induction i with|d y a q=>exact(dK y a q.b ⟨rfl,ac (wA q) (by decide),.inr ⟨q,rfl,rfl⟩⟩)|m l=>exact(dK .d .d _ ⟨rfl,by have:=(tr z).1;simp []at this⊢;lia,.inl (by simp)⟩)|g o=>clear z;induction o<;>exact d_ h rfl|c o=>clear z;induction o<;>exact d_ h rfl|f o=>clear z;induction o<;>exact d_ h rfl|b o=>clear z;induction o<;>exact d_ h rfl|_=>exact d_ h rfl
theorem AM a b:bp j .Eq (mM a) (mM (some b))=some (decide (a=some b)):=by obtain⟨t,z⟩:=b;induction a with|none=>rfl|some a=>obtain⟨y,q⟩:=a;refine(?_:some ((y==t)&&((q==z)&&true))=_);congr 1;refine J (propext lc) ?_;simp
theorem Ht(h:jE y=some b):b.1=y.a:=by induction y with
|i q n=>exact J (ag h).symm rfl|d q a n=>
have z:(if a.a=0 then some ([97,100,100,105],n.a)else none)=some b:=h;split at z;. clear h;exact J (ag z).symm rfl
. exact C z|_=>exact C h
theorem HZ a:bp z .Lt (qI a) (.b 0)=some a.isNone:=by induction a with|none=>rfl|some a=>exact J (e' (iH (fw a))) rfl
def mw(z:List A)(p:Nat):List B:=match(z[p+1]?).map (λl:A=>l.2)with|some (.a i)=>i.a::i.h|some (.d _)|some .g|some (.f _)|some (.e _)|some (.c _)|none=>[[]]
noncomputable abbrev F3(z:List A)(p:Nat)(r:Nat)(y q j u:Option V):ao:=[some (bV z),some (bY z),some (.b (p:Int)),some (.b (r:Int)),y,q,j,u]
theorem QH{d c}(m:∀l∈z,bA l.2=true):az aj (I w 59) w (ab By 4) (F3 z p r d c none none) []=some (.a,F3 z p r d c (some (ah (mw z p))) none,[]):=by unfold mw;have g:p+1=(p+1:Nat):=rfl;induction y:z[p+1]? with|none=>have t:¬(p+1<(z.length:Int)):=iH (g_.mpr (kt.mp y));exact aA ((as (e' (show¬p+1<(((z.map λl=>V.a (cx l.2)).length:Nat):Int)fromλq=>t (lW q (g_.mpr (de (bU _))))))) rfl)|some l=>have j:decide (p+1<(((z.map λl=>V.a (cx l.2)).length:Nat):Int))=true:=em (lW (cY.mpr ((bo.mp y).1)) (g_.mpr (de (bU _).symm)));have f:∀u,a_ u (bV z) (.b ((p:Int)+1))=some (.a (cx l.2)):=λu=>rq (p:=p+1) y;have v:∀u,a_ u (bY z) (.b ((p:Int)+1))=some (ah (fS (l.2.b l.1))):=λu=>j' (p:=p+1) y;have k:=m _ (cq y);clear y;obtain⟨s,o⟩:=l;induction o with|a i=>exact aA ((aZ j) ((N (f _)) ((N (((kM s i k)▸v) _)) rfl)))|_=>exact aA ((aZ j) ((N (f _)) rfl))
theorem K5 b:bp z .Is (mM b) .j=some b.isNone:=by induction b<;>rfl
theorem OZ{a b:cT}(h:a.b=b.b):a=b:=by induction a<;>induction b<;>first|rfl|exact d_ h rfl
theorem vV{a b:B}(h:(!(a==b))=false):a=b:=eq_of_beq (by refine(aN (Bool.not_not (a==b))).trans (J h ?_);rfl)
theorem F0{z:Type}{o:Option z}(h:o.isNone=false):∃a,o=some a:=by induction o with|none=>exact am h.symm|some a=>exact⟨a,rfl⟩
theorem MD{l}(y:jE z=some b)(q:b.1=[108,117,105])(j:z.h=u.b::l):∃x,z=.i u x:=by induction z with|i g x=>exact⟨x,aJ (λO=>aQ.i O x) (OZ (jJ j).1)⟩|d g w x=>rw [Ht y]at q;exact d_ q rfl|_=>exact C y
theorem MG(z:(mw q p).headD []=[97,100,100,105]):∃j y,q[p+1]?=some (j,.a y)/\mw q p=y.a::y.h:=by unfold mw at z⊢;induction u:q[p+1]? with|none=>replace z:=u▸z;cases z|some w=>obtain⟨j,g⟩:=w;replace z:=u▸z;clear u;induction g with|a y=>exact(ax j y ⟨rfl,rfl⟩)|_=>exact d_ z rfl
theorem ME:a_ y (ah (mw z p)) (.b 0)=some (.a ((mw z p).headD [])):=by unfold mw;split<;>exact hM
set_option maxHeartbeats 1000000 in theorem Il w n(h:59<n)(z:List A)(a1:z.length<5000)(v:∀l∈z,bA l.2=true)(L:z[p]?=some (s,.a i))(a2:jr i=true)(g:fA i ((z[p+1]?).map (λO=>O.2)) (dJ z p)=false)(a0:gg i (dJ z p)=false)Q:I w n 59 [bV z,bY z,.b p] Q=some (.h false,Q):=by
 refine ct (f:=B7) h rfl (by decide) rfl rfl (cy (rd z) (cy (n_ z) rfl)) (z:=[]) (v:=.h false) (aK ?_) rfl;have B:=v _ (cq L);have Y:=(bo.mp L).1;have U:=λQ=>j' (y:=Q) L;refine ae (FY a2) λM P=>?_;refine bg (zd M P) λd l E S=>?_;replace U:=(kM s i B)▸U;replace U:=E▸U;have X:=λ(q:Nat)(hq:q<=z.length)=>Ih w 59 (by decide) z a1 v q d.a hq [];refine(N (U _)) ((N (o_ _ d)) ?_);refine(H (X p (bC Y))) ((H (zD w 59 (by decide) z L B [])) ?_);refine(eJ (K5 _)) (hT (λO=>rfl) λt=>?_);refine(eJ (HZ _)) (hT (λO=>rfl) λZ=>?_);refine hT (λO=>rfl) λh0=>?_;refine av (F0 t) λb t=>?_;refine av (F0 Z) λa Z=>?_;have y:0<d.a:=sA λh=>dA.mp h0 (aJ Int.ofNat h);refine kT (vh y Z) λT s' j o hj z1=>?_;have R:=v _ (cq o);have NN:=zD w 59 (by decide) z o R [];have f:=λQ=>j' (y:=Q) o;replace f:=(kM s' j R)▸f;refine J t (J Z ?_);have T5:jE j≠some b:=λe=>by have h1:=CW y Z o e;exact am ((GZ t (bl y (de S)) (S▸h1))▸a0).symm
 refine(H NN) ((eJ (AM _ _)) ?_);refine hT (λe=>absurd (bt e) T5) λO=>?_;refine(lL (QH v)) (hT (λO=>rfl) λc1=>?_);refine(N ME) (hT (λO=>rfl) λm=>?_);refine(N (f _)) (hT (λO=>rfl) λF=>?_);have m:=vV m;have F:j.a=[97,100,100,105]:=vV F;refine av (MD t (vV c1) E) λx hx=>?_;refine bg (MG m) λs2 i2 G W=>?_;replace m:=W▸m;have m:i2.a=[97,100,100,105]:=m;refine hg (Au m (v _ (cq G))) λV K x1 g1 g2 g3=>?_;refine hg (Au F R) λd3 a3 x3 k1 k2 k3=>?_;replace f:=k1▸f;replace f:=F▸f;refine J W (J g1 ?_);refine J m ?_;refine(N (o_ _ V)) ((N (o_ _ K)) ?_);refine(N (f _)) ((N (o_ _ a3)) ?_);refine hT (λO=>rfl) λu=>?_;refine(N (f _)) ((N (kA (au (dV g2 k2) (by decide)))) ?_);refine hT (λO=>rfl) λQp=>?_;have hm:37∉x1++x3:=λh=>am ((show List.contains (x1++x3) 37=false from Qp).symm.trans (hZ.mpr h));refine D (g3.resolve_left λh=>hm (iK _ h)) λq1 e1 e2=>?_;refine D (k3.resolve_left λh=>hm (sR _ h)) λq3 f1 f2=>?_;refine(N (tU e2)) ((N (f _)) ?_);refine(N (tU f2)) (hT (λO=>rfl) λhz=>?_);refine(H (X a (ac (bC T) (bC Y)))) ?_;induction C:fr z d.a a with|none=>exact(H (Iq w 59 (by decide) z [])) rfl|some c=>
refine kT (vh y C) λO s4 k r O z2=>?_;refine(H (zD w 59 (by decide) z r (v _ (cq r)) [])) ?_;have T6:jE k≠some b:=λe=>by rw [hx]at t g;obtain rfl:=ag t;have u:((V.a:Int)==d.a&&((K.a:Int)==d.a&&((a3.a:Int)==d.a&&true)))=true:=re u;refine ch u λn1 u=>?_;refine ch u λn2 u=>?_;refine ch u λn3 O=>?_;replace g:=G▸g;replace g:=e1▸g;exact am ((show fA (.i d x) (some (.a (.d V K q1))) (dJ z p)=false from g).symm.trans (Oq y Z (f1▸o) (oK (eq_of_beq n3)) (eq_of_beq (re hz)) C r e (oK (eq_of_beq n1)) (oK (eq_of_beq n2))))
exact(eJ ((e' T6)▸(AM (j:=[]) (jE k) b))) rfl
def nL(p:Nat×A):V:=.g [.b p.1,.a (cx p.2.2)]
theorem Cn z:gs 3 [bV z]=some ((fk 0 z).map nL):=by refine(?_:some (jO (z.map λl=>V.a (cx l.2)))=_);congr 1;unfold jO fk;refine J (bU _) (J List.range_eq_range' ?_);refine J List.zip_map_right (J di ?_);rfl
theorem Dr{z}{v}{k:Nat}:a_ z (.g [v,.b (k:Int)]) (.b 1)=some (.b (k:Int))/\a_ z (.g [v,.b (k:Int)]) (.b 0)=some v:=⟨rfl,rfl⟩
inductive yZ(q:List A)(j:List (Nat×A))(u:ao)(g:af):Prop|a(i x y z L:_)(_:j=fk i (q.drop i))(_:i<=q.length)(_:u=[some (bV q),some (bY q),some (.c 0),x,y,z])(_:g=[.e (bq L)])(_:L++a' (q.drop i)=a' q)(_:L.length<=i)
abbrev F7:List aY:=cz mm 1
theorem Mi(h:ii (.a i)=some g):i=.e g:=by induction i<;>first|exact C h|exact aJ aQ.e (ag h)
theorem Io w n(h:60<n)q(a8:q.length<w)(a0:q.length<5000)(a1:∀l∈q,bA l.2=true)(a9:(bZ q).Nodup)u:I w n 60 [bV q,bY q] u=some (.e (bq (a' q)),u):=by
 have a6:ak=1000000:=rfl;have fF:c_ 0 [bV q,bY q]=true:=cy (rd q) (cy (n_ q) rfl);refine ct (f:=zX) h rfl (by decide) rfl rfl fF (z:=[.e (bq (a' q))]) (v:=.c 0) ?_ (sm rfl);refine aS (s:=ab mm 0) (j:=mm.drop 1) (z:=[some (bV q),some (bY q),some (.c 0),none,none,none]) (y:=[.e (bq [])]) (by simp [mm,zX,eR,gu];rfl) (i' (s:=ab mm 1) (u:=mm.drop 2) ?_);refine J (ga (m:=[]) (z:=3) (d:=[some (bV q),some (bY q),some (.c 0),none,none,none]) (j:=[.e (bq [])]) (c:=[.e (bq [])]) (o:=[bV q]) (f:=(fk 0 q).map nL) rfl (fb rfl) (Cn q)) (gr nL (yZ q) _ ?_ ?_ (fk 0 q) _ _ ⟨0,none,none,none,[],rfl,eT _,rfl,rfl,by simp,aH _⟩)
 . rintro ρ u⟨i,x,y,z,L,W,D,rfl,rfl,e,_⟩;have D:i=q.length:=by have:=aJ List.length W;rw [ri,List.length_nil,jM]at this;exact gk D (qo this.symm)
   have e:L=a' q:=by rw [D,qx]at e;exact(gX L).symm.trans e
   exact aK (by exact J e rfl)
 . rintro⟨j,l⟩a7 ρ u⟨i,x,y,z,L,W,D,rfl,rfl,e,X⟩;have c:i<q.length:=by have:=aJ List.length W;rw [ri,lV,jM]at this;exact Nat.lt_of_sub_pos (sQ (qm _) this)
   rw [dT c,ze,qn,Prod.mk.injEq]at W;clear D;obtain⟨⟨rfl,A⟩,rfl⟩:=W;have Z:q[j]?=some l:=by exact J A (cH c)
   rw [dT c,<-A]at e;rw [nU]at e;have Y:=λu=>zC w 60 (by decide) q a8 a0 a1 j (ac (ac (bC c) (bC a0)) (by decide)) u;have dz:=a1 _ (cq Z);have bg:=λu=>j' (y:=u) Z;clear Z;obtain⟨s,r⟩:=l;have hb:∀p1 p2 p3 u,fn aj (I w 60) (.b [.a 3 p1,.a 4 p2] p3) (nL (j,s,r)) [some (bV q),some (bY q),some (.c 0),x,y,z] u=some ([some (bV q),some (bY q),some (.c 0),some (.b j),some (.a (cx r)),z],u):=λp1 p2 p3 u=>Cx rfl;rw [hb];have m:∀z',L++a' (q.drop (j+1))=a' q->yZ q (fk (j+1) (q.drop (j+1))) [some (bV q),some (bY q),some (.c 0),some (.b j),some (.a (cx r)),z'] [.e (bq L)]:=λz' h=>⟨j+1,_,_,_,L,rfl,c,rfl,rfl,h,bX X⟩;clear hb;induction r with
|d t=>
 have a2:fS ((an.d t).b s)=[t++[58]]:=xs dz;rw [a2]at bg;have a3:=(rQ t 58).2;have a4:gb (q.drop j)=gb (q.drop (j+1)):=by(refine J (dT c) ?_);refine J (aN A) ?_;unfold gb;exact J (nc rfl) rfl
 have p:=BL q j;replace p:=p.trans a4;revert p Y;generalize jt q j=a5;generalize j+eq q j=k;intro Y p;have i1:=λu=>(Dr (z:=u) (v:=ah a5) (k:=k)).1;induction C:gb (q.drop (j+1))with|none=>replace p:=p.trans C;have mO:¬(k<(q.length:Int)):=iH (g_.mpr (kt.mp p));exact dj ((H (Y _)) (as (by simp [mO]) rfl)) (m _ (by rw [(show fj (q.drop (j+1))=none by unfold fj;refine J C ?_;rfl)]at e;exact e))|some l'=>
 replace p:=p.trans C;have F:(k<(q.length:Int)):=by exact cY.mpr ((bo.mp p).1)
 have oU:decide (k<((q.map λl=>V.a (cx l.2)).length:Int))=true:=by rw [bU];exact em F
 have M:=λu=>rq (y:=u) p;have v:=λu=>j' (y:=u) p;have B:=a1 _ (cq p);have Q:fj (q.drop (j+1))=ii l'.2:=by unfold fj;exact J C rfl
 clear C p;obtain⟨s',U⟩:=l';have HX:dD U=false->cA (aI aj (I w 60) w F7 [some (bV q),some (bY q),some (.c 0),some (.b (j:Int)),some (.a (cx (an.d t))),z] [.e (bq L)]) (km (yZ q (fk (j+1) (q.drop (j+1)))) (kx (aI aj (I w 60) w (mm.drop 2)) (.c 0) [.e (bq (a' q))])):=λhc=>by
  have P:(cx U==[99,111,100,101])=false:=by clear Q B v M;induction U<;>first|rfl|exact am hc.symm
  have P5:ii U=none:=by clear P;clear Q B v M;induction U<;>first|rfl|exact am hc.symm
  exact dj ((H (Y _)) ((aZ oU) ((N (M _)) ((as P) rfl)))) (m _ ((aJ (λo=>L++(uI o (an.d t)++a' (q.drop (j+1)))) (Q.trans P5)).symm.trans e))
 induction U with
 |a a=>have qX:fS ((an.a a).b s')=a.a::a.h:=kM s' a B;rw [qX]at v;have G:=λu=>zL w 60 (by decide) a u;induction E:ii (.a a)with|none=>
have S:d' (.a a)=false:=by refine(uN _).trans (J E ?_);rfl
rw [S]at G;exact dj ((H (Y _)) ((aZ oU) ((N (M _)) ((N (v _)) ((H (G _)) rfl))))) (m _ ((aJ (λo=>L++(uI o (an.d t)++a' (q.drop (j+1)))) (Q.trans E)).symm.trans e))|some T=>
have S:d' (.a a)=true:=by refine(uN _).trans (J E ?_);rfl
rw [S]at G;clear S qX HX B;obtain rfl:=Mi E;have G:∀u,I w 60 56 [ah [[106,97,108],[122,101,114,111],T]] u=some (.h true,u):=G;have R:(((a' q).map (λO=>O.1))).Nodup:=a9.sublist (rt q);have K:t∉L.map (λO=>O.1):=by
 intro hm;have e1:L++(t,T)::a' (q.drop (j+1))=a' q:=by rw [Q]at e;exact e
 rw [<-e1,fz,iE]at R;exact R.2.2 t hm t (by simp) rfl
have hs:eY [.e (bq L)] (.c 0) (.a t) (.a T)=some [.e (bq (L++[(t,T)]))]:=by refine(lu rfl rfl (by rw [ui];exact bl (bl (au X c) (bC a0)) (by decide))).trans (J (zb K) ?_);rfl
exact dj ((H (Y _)) ((aZ oU) ((N (M _)) ((N (v _)) ((H (G _)) ((N (v _)) ((N (bg _)) ((je (by rw [a3];exact hs)) rfl)))))))) ⟨j+1,_,_,_,L++[(t,T)],rfl,c,rfl,rfl,by rw [Q]at e;refine(gW _ _ _).trans ?_;exact e,by simp;exact X⟩
 |_=>exact HX rfl
|a i=>exact dj (as (by simp) rfl) (m _ e)|g=>exact dj (as (by simp) rfl) (m _ e)|f b=>exact dj (as (by simp) rfl) (m _ e)|e b=>exact dj (as (by simp) rfl) (m _ e)|c b=>exact dj (as (by simp) rfl) (m _ e)
inductive GG(L:List (B×B))(g:B)(q:List Nat)(j:ao)(u:af):Prop|a(x z y:_)(_:j=[some (.e (bq L)),some (.a g),some (.a x),y])(_:u=[])(_:cl L z x=g)(_:(x≠g\/z=[]))(_:gv L z<q.length)
theorem Iz w n(h:61<n)L(k:L.length<900)g(m:cl L [] g=g)q:I w n 61 [.e (bq L),.a g] q=some (.h false,q):=by
 refine ct (f:=B0) h rfl (by decide) rfl rfl rfl (z:=[]) (v:=.h false) ?_ rfl;refine aS (s:=ab ra 0) (j:=ra.drop 1) (z:=[some (.e (bq L)),some (.a g),some (.a g),none]) (y:=[]) (aA rfl) (i' (s:=ab ra 1) (u:=ra.drop 2) ?_);refine(?_:cA (az aj (I w 61) w (.b _ _ _ _ _ _ _ _) _ _) _);have o:∀q,f' q .a [.e (bq L)]=some (.b L.length):=λq=>by refine(?_:some (V.b ((bq L).length:Nat))=_);exact J (ui _) rfl
 have b:gv L []<=L.length:=yc _ _;rw [ga (m:=[]) (z:=1) (d:=[some (.e (bq L)),some (.a g),some (.a g),none]) (j:=[]) (c:=[]) (o:=[.b (L.length+1:Nat)]) (f:=(List.range (L.length+1)).map λi:Nat=>V.b i) rfl (fb (by simp [-jV,o])) (rE (bl k (by decide)))];refine gr (λi:Nat=>V.b (i:Int)) (GG L g) _ ?_ ?_ (List.range (L.length+1)) _ _ ⟨g,[],none,rfl,rfl,m,.inr rfl,by rw [iC];exact eA b⟩;. rintro e q⟨x,z,y,rfl,rfl,_,_,h⟩;exact absurd h (jm _)
 . rintro a r e q⟨x,z,y,rfl,rfl,j,u,v⟩;simp only [List.length_cons]at v;have d:=zT L x;induction c:bN L x with|none=>rw [lE c]at j;clear u m;subst j;rw [c]at d;simp [mS,d,kx]|some t=>
rw [c]at d;by_cases f:x∈z
. rw [lF f]at j;refine u.elim (λu=>?_) λu=>?_;. exact absurd j u
  . rw [u]at f;cases f
. rw [p' c f]at j;by_cases p:t=g;. clear j u m;subst p;simp [mS,d,kx]
  . simp [mS,d,p];exact⟨t,z++[x],_,rfl,rfl,j,.inl p,bl (kR c f) (eB v)⟩
theorem Im w n(h:62<n)i z:I w n 62 [bQ i] z=some (.h (ho i),z):=by
 have j:∀u,bu (aI aj (I w 62) w Bu (cu y_ [bQ i]) []) (.h u) []->I w n 62 [bQ i] z=some (.h u,z):=λu e=>ct (f:=y_) h rfl (by decide) rfl rfl (cy (lq _) rfl) e rfl;have y:=λ(r:cT)z=>js (z:=z) (iZ r);by_cases p:eD (.a i.a) [.a [97,100,100],.a [97,100,100,105]]=some false
 . have G:ho i=false:=by clear j;induction i with
|g o=>induction o<;>first|rfl|cases p
|d=>cases p|_=>rfl
   refine J G (j _ ?_);have W:∀z,a_ z (bQ i) (.b 0)=some (.a i.a):=λz=>hM;clear j;generalize bQ i=v at*;generalize i.a=x at*;have D:(!([97,100,100]==x||([97,100,100,105]==x||false)))=true:=aJ (λO=>!O) (ag p);exact aK ((N (W _)) ((aZ D) rfl))
 . induction i with
|d q a g=>
 refine j _ ?_;have Y:(g.b==[48])=(g.a==0):=by clear p j;induction g<;>rfl
 have t:∀z,a_ z (bQ (.d q a g)) (.b 1)=some (.a q.b):=λz=>rV;have Q:∀z,a_ z (bQ (.d q a g)) (.b 2)=some (.a a.b):=λz=>kd;have Z:∀z,a_ z (bQ (.d q a g)) (.b 3)=some (.a g.b):=λz=>rW;have f:∀z,a_ z (bQ (.d q a g)) (.b 0)=some (.a [97,100,100,105]):=λz=>hM;refine(?_:bu _ (.h ((q.a==a.a||q.a==0)&&(g.a==0||q.a==0))) []);clear j;generalize bQ (.d q a g)=v at*;induction k:(q.a==0)with|true=>rw [Bool.or_true,Bool.or_true];exact aK ((N (f _)) ((N (t _)) ((N (y q _)) ((aZ ((ef _).trans k)) rfl))))|false=>rw [lU,lU,Bool.and_comm];induction s:(g.a==0)with|true=>exact aK ((N (f _)) ((N (t _)) ((N (y q _)) ((as ((ef _).trans k)) ((N (Z _)) ((N (f _)) ((aZ (Y.trans s)) ((N (t _)) ((N (y q _)) ((N (Q _)) ((N (y a _)) (aJ (λu=>(some (eM.b (.h u),[],[]))) (oa q.a a.a)))))))))))))|false=>exact aK ((N (f _)) ((N (t _)) ((N (y q _)) ((as ((ef _).trans k)) ((N (Z _)) ((N (f _)) ((as (Y.trans s)) (by exact J (Y.trans s) rfl))))))))
|g o q a u=>induction o with
 |a=>
refine j _ ?_;have t:∀z,a_ z (bQ (.g .a q a u)) (.b 1)=some (.a q.b):=λz=>rV;have Q:∀z,a_ z (bQ (.g .a q a u)) (.b 2)=some (.a a.b):=λz=>kd;have Z:∀z,a_ z (bQ (.g .a q a u)) (.b 3)=some (.a u.b):=λz=>rW;have f:∀z,a_ z (bQ (.g .a q a u)) (.b 0)=some (.a [97,100,100]):=λz=>hM;have U:∀z,bp z .Eq (.f ((bD gQ (.a u.b)).getD (.b 1))) (.b 0)=some ((u.a:Int)==0):=λz=>by exact J (iZ _) rfl
refine(?_:bu _ (.h ((q.a==a.a||q.a==0)&&(u.a==0||q.a==0))) []);clear j;generalize bQ (.g .a q a u)=v at*;induction k:(q.a==0)with|true=>rw [Bool.or_true,Bool.or_true];exact aK ((N (f _)) ((N (t _)) ((N (y q _)) ((aZ ((ef _).trans k)) rfl))))|false=>rw [lU,lU,Bool.and_comm];induction s:(u.a==0)with|true=>exact aK ((N (f _)) ((N (t _)) ((N (y q _)) ((as ((ef _).trans k)) ((N (Z _)) ((N (f _)) ((eJ (U _)) ((aZ ((ef _).trans s)) ((N (t _)) ((N (y q _)) ((N (Q _)) ((N (y a _)) (aJ (λu=>(some (eM.b (.h u),[],[]))) (oa q.a a.a))))))))))))))|false=>exact aK ((N (f _)) ((N (t _)) ((N (y q _)) ((as ((ef _).trans k)) ((N (Z _)) ((N (f _)) ((eJ (U _)) ((as ((ef _).trans s)) (by refine J (ef _) (J s ?_);rfl)))))))))
 |_=>exact absurd rfl p
|m l=>refine J (dx h) ?_;kernel_rfl|c o=>clear j;induction o<;>exact absurd rfl p|f o=>clear j;induction o<;>exact absurd rfl p|b o=>clear j;induction o<;>exact absurd rfl p|_=>exact absurd rfl p
theorem MP z:(a' z).length<=z.length:=by have y:=(rt z).length_le;rw [bU]at y;exact ac y (x' _ _)
theorem Ks(h:dk (.a i)=some g):∃l,i.a::i.h=l++[g]:=by induction i with|e x=>exact J (ag h) ⟨[[106,97,108],[122,101,114,111]],rfl⟩|b k a z x=>exact J (ag h) ⟨[k.a,a.b,z.b],rfl⟩|_=>exact C h
theorem Ow(h:dk (.a i)=some g):(i.a==[106,97,108])=d' (.a i):=by induction i with|e x=>rfl|b k a z x=>clear h;induction k<;>rfl|_=>exact C h
noncomputable abbrev kF(z:List A)(y:V)(p:Nat)(q j u:Option V):ao:=[some (bV z),some (bY z),some (.b (p:Int)),some y,q,j,u]
theorem KN{w}{o}{q j}{z}{g}{p k:Nat}(d:∀y,a_ y q (V.b (-1))=some (V.a g))(u:bp.z (V.a g) (V.d (List.map V.a z))=some false)(c:∀(y:af),I w 63 61 [j,V.a g] y=some (V.h false,y)):az aj (I w 63) w (ab hm 2) (kF o j p (some q) (some (ah z)) (some (.b (k:Int)))) []=some (.a,kF o j p (some q) (some (ah z)) (some (.b (k:Int))),[]):=by simp [hm,d,u,c]
theorem Iw w n(h:63<n)z(a2:z.length<w)(Q:z.length<=300)(a0:∀l∈z,bA l.2=true)(G:z[p]?=some (s,.a i))(a1:dk (.a i)=some g)(h1:g∉ej (z.drop (p+1)))(h2:cl (a' z) [] g=g)(L:ge (z.drop p)=none)y:I w n 63 [bV z,bY z,.b p,.e (bq (a' z))] y=some (.h true,y):=by
 have S:c_ 0 [bV z,bY z,.b p,.e (bq (a' z))]=true:=cy (rd z) (cy (n_ z) rfl);refine ct (f:=y') h rfl (by decide) rfl rfl S (z:=[]) (v:=.h true) ?_ rfl;have X:=a0 _ (cq G);have f:=(bo.mp G).1;have P:=λy=>j' (y:=y) G;have Z:fS ((an.a i).b s)=i.a::i.h:=kM s i X;replace P:=Z▸P;refine av (Ks a1) λl0 A=>?_;have v8:∀y,a_ y (bQ i) (.b (-1))=some (.a g):=λy=>by refine(?_:a_ y (ah (i.a::i.h)) _=_);exact J A Rc
 have Y:∀y,a_ y (bQ i) (.b 0)=some (.a i.a):=λy=>hM;have NK:∀y,I w 63 55 [bV z,bY z,.b (p+1)] y=some (.g [ah (ej (z.drop (p+1))),.b (p+1+eq z (p+1):Nat)],y):=λy=>zC w 63 (by decide) z a2 (au Q (by decide)) a0 (p+1) (bl f (ac Q (by decide))) y;have NM:∀y,I w 63 55 [bV z,bY z,.b (p+2)] y=some (.g [ah (ej (z.drop (p+2))),.b (p+2+eq z (p+2):Nat)],y):=λy=>zC w 63 (by decide) z a2 (au Q (by decide)) a0 (p+2) (au f (au Q (by decide))) y;have yF:=λy=>Iz w 63 (by decide) (a' z) (au (MP z) (au Q (by decide))) g h2 y;have m:=uL [] g (ej (z.drop (p+1)));replace m:=(e' h1)▸m;clear S;generalize V.e (bq (a' z))=c at*;have S0:az aj (I w 63) w (ab hm 0) (cu y' [bV z,bY z,.b p,c]) []=some (.a,kF z c p (some (bQ i)) none none,[]):=by exact aA ((N (P _)) rfl)
 refine aS (s:=ab hm 0) (j:=hm.drop 1) S0 ?_;clear h1;generalize a3:ej (z.drop (p+1))=j at*;generalize p+1+eq z (p+1)=k at*;have S1:az aj (I w 63) w (ab hm 1) (kF z c p (some (bQ i)) none none) []=some (.a,kF z c p (some (bQ i)) (some (ah j)) (some (.b k)),[]):=by exact aA ((H (NK _)) rfl)
 refine aS (s:=ab hm 1) (j:=hm.drop 2) S1 ?_;clear S1 S0;generalize R:bQ i=U at*;refine aS (s:=ab hm 2) (j:=hm.drop 3) (KN (w:=w) (o:=z) (p:=p) (k:=k) v8 m yF) ?_;have hj:=Ow a1;have t:∀y,bp y .Eq (.a i.a) (.a [106,97,108])=some (d' (.a i)):=λy=>by refine J lB (J hj ?_);rfl
 have u:az aj (I w 63) w (ab hm 3) (kF z c p (some U) (some (ah j)) (some (.b k))) []=some (.b (.h true),kF z c p (some U) (some (ah j)) (some (.b k)),[])->bu (aI aj (I w 63) w (hm.drop 3) (kF z c p (some U) (some (ah j)) (some (.b (k:Int)))) []) (.h true) []:=λe=>by refine J cU (J e ?_);exact J pT ⟨_,rfl⟩
 induction T:d' (.a i)with|true=>exact u (aA ((N (Y _)) ((aZ (ag ((T▸t) []))) rfl)))|false=>replace t:=T▸t;induction r:z[p+1]? with|none=>
have a4:=kt.mp r;have K:(p:Int)+1=(z.length:Int):=by lia
exact u (aA ((N (Y _)) ((as (ag (t []))) ((aZ (b:=((p:Int)+1==((z.map λl=>V.a (cx l.2)).length:Int))) (ez.mpr (K.trans (aJ Int.ofNat (bU _).symm)))) rfl))))|some W=>
have oU:=(bo.mp r).1;have K:¬(p:Int)+1=(z.length:Int):=Int.ne_of_lt (cY.mpr oU);have B:∀y,a_ y (bV z) (.b ((p:Int)+1))=some (.a (cx W.2)):=λy=>rq (p:=p+1) r;have D:((p:Int)+1==((z.map λl=>V.a (cx l.2)).length:Int))=false:=dA.mpr λq=>K (q.trans (aJ Int.ofNat (bU _)));have o:∀y,a_ y (bY z) (.b ((p:Int)+1))=some (ah (fS (W.2.b W.1))):=λy=>j' (p:=p+1) r;have mS:=a0 _ (cq r);have ja:z.drop p=(s,.a i)::W::z.drop (p+2):=by refine J (dT f) (J (bo.mp G).2 ?_);refine J (dT oU) (J (bo.mp r).2 ?_);rfl
replace L:=ja▸L;clear r;clear ja;obtain⟨s',r'⟩:=W;induction r' with|a v=>
have qX:fS ((an.a v).b s')=v.a::v.h:=kM s' v mS;replace o:=qX▸o;have F:=λy=>zL w 63 (by decide) v y;have S3:az aj (I w 63) w (ab hm 3) (kF z c p (some U) (some (ah j)) (some (.b (k:Int)))) []=some (.a,kF z c p (some U) (some (ah j)) (some (.b (k:Int))),[]):=by exact aA ((N (Y _)) ((as (ag (t []))) ((as D) ((N (B _)) rfl))))
refine aS (s:=ab hm 3) (j:=hm.drop 4) S3 (tS (b:=d' (.a v)) (λd=>?_) λd=>?_);. exact aK ((N (o _)) ((H ((d▸F) _)) rfl))
. replace F:=d▸F;have M:g∉ej (z.drop (p+2)):=by refine av (wI d) λg2 jb=>?_;clear t hj Y R A Z P X G;induction i with|b k a a5 x=>clear T;cases a1;clear d F qX mS o B;cases jb;intro a6;have L:(if g∈ej (z.drop (p+2))then some (an.a (.b k.b a a5 g2))else none)=none:=L;exact C ((if_pos a6)▸L).symm|e x=>exact am T.symm|_=>exact C a1
  have E:=uL [] g (ej (z.drop (p+2)));replace E:=(e' M)▸E;clear M;generalize ej (z.drop (p+2))=Uf at*;generalize p+2+eq z (p+2)=k2 at*;have i0:=λy=>(Dr (z:=y) (v:=ah Uf) (k:=k2)).2;exact aK ((N (o _)) ((H (F _)) ((N (v8 _)) ((H (NM _)) ((eJ (aJ (Option.map (λO=>!O)) E)) rfl)))))|_=>exact u (aA ((N (Y _)) ((as (ag (t []))) ((as D) ((N (B _)) rfl)))))
noncomputable def oz:List A->db->Option (Nat×aQ)->Prop|[],_,_=>True|l::z,K,y=>match l.2 with|.a i=>fA i (z.head?.map (λO=>O.2)) K=false/\ho i=false/\gg i K=false/\hK i (y.map (λO=>O.2))=none/\oz z (ei i K) (some (l.1,i))|.d _|.g|.f _|.e _|.c _=>if eg l.2 then oz z [(0,0)] none else oz z K y
theorem JR{a}(h:hK i a=some j):j≠i:=by refine bB (BJ h) λd m v z y=>?_;refine J z (ae y λO q=>?_);exact J q (λe=>d_ (aJ aQ.a e) rfl)
theorem M8:∀(m:List A)(q:db)(z:Option (Nat×aQ)),b' q z m=m->oz m q z:=by intro k;induction k with|nil=>intro O O O;exact trivial|cons l y u=>intro q z h;induction d:dD l.2 with
|false=>
 refine(v_ d).elim (λc=>?_) λb=>?_;. rw [vu c]at h;have u:=u _ _ (jJ h).2;clear d h;obtain⟨s,r⟩:=l;induction r<;>first|exact u|exact am c
 . obtain⟨t,c⟩:=b;rw [vw t c]at h;have u:=u _ _ (jJ h).2;clear d h;obtain⟨s,r⟩:=l;induction r<;>first|exact u|(exact am c.symm;done)|(cases t;done)|(cases d;done)
|true=>refine go (pz d) λs i n=>?_;subst n;rw [vv]at h;induction g:fA i (y.head?.map (λO=>O.2)) q with|true=>exfalso;rw [if_pos g]at h;have w:=(pF q z (y.drop 1)).1;rw [h,jM,lV]at w;omega|false=>rw [if_neg (by refine J g ?_;decide)]at h;induction o:(ho (bL s i z).2||gg (bL s i z).2 q)with|true=>exfalso;rw [if_pos o]at h;have w:=(pF q z y).1;rw [h,lV]at w;omega|false=>
rw [if_neg (by refine J o ?_;decide)]at h;refine ae (jJ h) λw v=>?_;have f:hK i (z.map (λO=>O.2))=none:=by induction f:hK i (z.map (λO=>O.2))with|none=>rfl|some j=>
 exfalso;have p:bL s i z=(0,j):=by unfold bL;exact J f rfl
 rw [p]at w;have:j=i:=by injection w with _ e;injection e
 exact JR f this
have p:bL s i z=(s,i):=by unfold bL;exact J f rfl
rw [p]at o v;rw [ym]at o;exact⟨g,o.1,o.2,f,u _ _ v⟩
structure xS(z:List A):Prop where
a:bE false z=z
b:cO z=z
d:bG z=z
c:b' [(0,0)] none z=z
theorem Jz(h:cF z=z):xS z:=by
 refine bk (vM z) λO O g=>?_;refine bk (g (by exact J h rfl)) λu y w=>?_;have q:cO z=z:=by exact(aN w).trans h
 have j:cF z=gP (bG (cO (bE false z))):=rfl;rw [u,q]at j;rw [q]at y;rw [y,h]at j;exact⟨u,q,y,j.symm⟩
theorem P0:∀y,bG y=y->∀p l z,y.drop p=l::z->ge (l::z)=none/\hj l z=false:=by intro d;induction d with|nil=>intro O p l z h;replace h:=List.drop_nil▸h;cases h|cons x y c=>intro u p l z h;have w:=(rO y).1;induction q:ge (x::y)with|some r=>exfalso;have g:=aJ List.length ((vl q)▸u);have o:=(rO (y.drop 1)).1;have f:=EU q;replace o:=jM▸o;simp only [List.length_cons]at g;omega|none=>
refine ia (b:=hj x y) (λj=>?_) λj=>?_;. exfalso;have g:=aJ List.length ((vj q j)▸u);simp only [List.length_cons]at g;omega
. induction p using Nat.casesOn with|zero=>replace h:=qy▸h;cases h;exact⟨q,j⟩|succ p=>exact c (jJ ((pU q j)▸u)).2 p l z h
theorem MQ(h:cO z=z)(y:l∈z)(j:dk l.2=some g):cl (a' z) [] g=g:=by
 unfold cO at h;have w:∀(q:List A),q.map (bS (a' z))=q->∀l∈q,bS (a' z) l=l:=by intro q;induction q with|nil=>intro _ l h;cases h|cons x q d=>
intro e l y;refine ae (jJ (dU▸e)) λc f=>?_;refine dF y ?_ λy=>?_;. exact c
. exact d f l y
 have o:=w z h l y;have u:=iN (a' z) l;replace u:=o▸u;clear o y;obtain⟨s,r⟩:=l;induction r with
|a i=>induction i with|e x=>refine J (ag j).symm ?_;injection u with e;injection e with e;exact e.symm|b k a m x=>refine J (ag j).symm ?_;injection u with e;injection e with _ _ _ e;exact e.symm|_=>exact C j
|_=>exact C j
noncomputable def eb:Option (Nat×aQ)->V|none=>ah [[],[],[]]|some (_,i)=>bQ i
theorem Gp z:a_ y (eb z) (.b 0)=some (.a (match z with|none=>[]|some (_,i)=>i.a)):=by induction z with|none=>exact hM|some a=>exact hM
theorem Ox{i:aQ}(h:i.a=[108,119]):∃d m,i=.f .a d m:=by induction i with
|g o=>induction o<;>exact d_ h rfl|c o=>induction o<;>exact d_ h rfl|f o=>induction o<;>first|exact(ax _ _ rfl)|exact d_ h rfl
|b o=>induction o<;>exact d_ h rfl|_=>exact d_ h rfl
theorem Oy{i:aQ}(h:i.a=[115,119]):∃v m,i=.c .c v m:=by induction i with
|g o=>induction o<;>exact d_ h rfl|c o=>induction o<;>first|exact(ax _ _ rfl)|exact d_ h rfl
|f o=>induction o<;>exact d_ h rfl|b o=>induction o<;>exact d_ h rfl|_=>exact d_ h rfl
theorem LZ i:∃z,eD (.a i.a) [.a [108,117,105],.a [97,100,100,105]]=some z/\(z=true->jr i=true):=by induction i with|g o=>induction o<;>exact⟨_,rfl,λh=>by first|rfl|exact C h⟩|c o=>induction o<;>exact⟨_,rfl,λh=>am h⟩|f o=>induction o<;>exact⟨_,rfl,λh=>by first|rfl|exact C h⟩|b o=>induction o<;>exact⟨_,rfl,λh=>am h⟩|_=>exact⟨_,rfl,λh=>by first|rfl|exact am h⟩
theorem Mh i:(d' (.a i)||(i.a==[106,97,108,114]))=fR (.a i):=by induction i with|g o=>induction o<;>rfl|c o=>induction o<;>rfl|f o=>induction o<;>rfl|b o=>induction o<;>rfl|_=>rfl
abbrev fi:List aY:=cz fN 3
noncomputable abbrev eV(z a b y q:V)(d:Bool)(j u g:Option V):ao:=[some z,some a,some b,some y,some q,some (.h d),j,u,g]
section
variable{p:Nat}
theorem Nu(Q:d=false)(f:∀z,I w 64 62 [bQ i] z=some (.h false,z))(G:hK i (t.map (λO=>O.2))=none):az aj (I w 64) w (ab fi 3) (eV L a b a0 (eb t) d x6 x7 (some (bQ i))) []=some (.a,eV L a b a0 (eb t) d x6 x7 (some (bQ i)),[]):=by
 subst Q;have r:∀z,a_ z (bQ i) (.b 0)=some (.a i.a):=λz=>hM;have u:=λz=>Gp (y:=z) t;by_cases n:i.a=[108,119];. refine go (Ox n) λk m Y=>?_;subst Y;induction t with|none=>dsimp only at u;generalize eb none=Z at*;generalize g:bQ (.f .a k m)=s at*;exact aA ((H (f _)) ((N (r _)) ((N (u _)) rfl)))|some o=>
obtain⟨x,j⟩:=o;dsimp only at u;by_cases l:j.a=[115,119]
. refine go (Oy l) λv y U=>?_;subst U;have W:m≠y:=λe=>by clear l u;subst e;exact C (G.symm.trans (if_pos rfl))
  have c:(y.a==m.a)=false:=by refine J (propext dA) ?_;intro e;rw [Nc]at e;exact W e.symm
  have q:∀z,bp z .Eq (.a y.a) (.a m.a)=some false:=λz=>by refine lB.trans (J c ?_);rfl
  have D:∀z,a_ z (bQ (.f .a k m)) (.b 2)=some (.a m.a):=λz=>kd;have F:∀z,a_ z (eb (some (x,.c .c v y))) (.b 2)=some (.a y.a):=λz=>kd;generalize eb (some (x,.c .c v y))=Z at*;generalize g:bQ (.f .a k m)=s at*;simp [-lB,RN,fi,cz,fN,f,r,n,u,l,D,F];have h:¬y.a=m.a:=dA.mp c;simp [h]
. generalize eb (some (x,j))=Z at*;generalize g:bQ (.f .a k m)=s at*;exact aA ((H (f _)) ((N (r _)) ((N (u _)) (as (by simp [l]) rfl))))
 . generalize bQ i=s at*;exact aA ((H (f _)) ((N (r _)) (as (by simp [n]) rfl)))
theorem Nv{k:List A}{g:Option B}(q:∀y,I w 64 56 [bQ i] y=some (.h (d' (.a i)),y))(z:(d' (.a i)=true\/jZ i=true)->∀y,I w 64 63 [a,b,.b (p:Int),c] y=some (.h true,y)):az aj (I w 64) w (ab fi 4) (eV r a b c (eb f) d (some (.b (p:Int))) v (some (bQ i))) []=some (.a,eV r a b c (eb f) d (some (.b (p:Int))) v (some (bQ i)),[]):=by have m:∀y,a_ y (bQ i) (.b 0)=some (.a i.a):=λy=>hM;have j:=tu i;have t:=lA w 64 (by decide);generalize bQ i=e at*;generalize eb f=l at*;induction o:d' (.a i)with|true=>rw [o]at q;have z:=z (.inl o);exact aA ((H (q _)) ((H (z _)) rfl))|false=>
rw [o]at q;refine ia (b:=jZ i) (λu=>?_) λu=>?_;. rw [u]at j;exact aA ((H (q _)) ((N (m _)) ((H (t _)) ((eJ j) ((H ((z (.inr u)) _)) rfl)))))
. rw [u]at j;exact aA ((H (q _)) ((N (m _)) ((H (t _)) ((eJ j) rfl))))
theorem Nw(u:jr i=true->∀z,I w 64 59 [a,b,.b (p:Int)] z=some (.h false,z)):az aj (I w 64) w (ab fi 5) (eV g a b o (eb y) d (some (.b (p:Int))) f (some (bQ i))) []=some (.a,eV g a b o (eb y) d (some (.b (p:Int))) f (some (bQ i)),[]):=by have q:∀z,a_ z (bQ i) (.b 0)=some (.a i.a):=λz=>hM;refine D (LZ i) λc j m=>?_;generalize bQ i=t at*;generalize eb y=r at*;induction c with|true=>simp [-wB,fi,cz,fN,q,j,(u (m rfl))]|false=>simp [-wB,fi,cz,fN,q,j]
theorem Nx(y:∀z,I w 64 56 [bQ i] z=some (.h (d' (.a i)),z)):az aj (I w 64) w (ab fi 6) (eV g a b o (eb t) d c f (some (bQ i))) []=some (.a,eV g a b o (eb (some (s,i))) (fR (.a i)) c f (some (bQ i)),[]):=by have m:∀z,a_ z (bQ i) (.b 0)=some (.a i.a):=λz=>hM;have j:=Mh i;refine(?_:_=some (eM.a,eV g a b o (bQ i) (fR (.a i)) c f (some (bQ i)),[]));generalize bQ i=r at*;generalize eb t=v at*;induction u:d' (.a i)with|true=>rw [u]at y j;have j:fR (.a i)=true:=j.symm;exact aA ((H (y _)) (by simp [fi,cz,fN,y,j]))|false=>
rw [u,Bool.false_or]at j;rw [u]at y;have q:∀z,bp z .Eq (.a i.a) (.a [106,97,108,114])=some (fR (.a i)):=λz=>by refine lB.trans (J j ?_);rfl
exact aA ((H (y _)) ((N (m _)) (by simp [-lB,fi,cz,fN,y,m,q])))
end
inductive qY(z:List A)(j:V)(y:List (Nat×A))(u:ao)(g:af):Prop|a(p q d w o c:_)(_:y=fk p (z.drop p))(_:p<=z.length)(_:u=eV j (bV z) (bY z) (.e (bq (a' z))) (eb q) d w o c)(_:g=[])(_:oz (z.drop p) (dJ z p) q)(_:bE d (z.drop p)=z.drop p)
theorem O5(h:bE d (l::y)=l::y):(dD l.2=true->d=false)/\bE (fR l.2||(!eg l.2&&d)) y=y:=by
 rw [rJ]at h;split at h;. exfalso;have q:=aJ List.length h;have u:=(ka (fR l.2||(!eg l.2&&d)) y).length_le;simp only [List.nil_append,List.length_cons]at q;lia
 . rename_i j;refine⟨λz=>?_,(jJ h).2⟩;clear h;obtain⟨s,r⟩:=l;induction r with
|a i=>induction d with|false=>rfl|true=>exact absurd rfl j
|_=>exact am z
theorem Ny{w}{a4}(L:fW a4 z)(a0:xS z)(a5:1000<w)y:cA (az aj (I w 64) w (ab fN 3) (eV y (bV z) (bY z) (.e (bq (a' z))) (eb none) false none none none) []) (λq=>q.1=.a/\qY z y [] q.2.1 q.2.2):=by
 have S:=L.c;have X:=L.a;refine J (ga (m:=[]) (z:=3) (d:=eV y (bV z) (bY z) (.e (bq (a' z))) (eb none) false none none none) (j:=[]) (c:=[]) (o:=[bV z]) (f:=(fk 0 z).map nL) rfl (fb rfl) (Cn z)) (gr nL (qY z y) _ ?_ ?_ (fk 0 z) _ _ ⟨0,none,false,none,none,none,rfl,eT _,rfl,rfl,M8 _ _ _ a0.c,a0.a⟩);. rintro ρ u h;exact⟨rfl,h⟩
 . rintro⟨j,l⟩a3 ρ u⟨p,D,c,x6,x7,Z,A,hp,rfl,rfl,U,H⟩;have m:p<z.length:=by have:=aJ List.length A;rw [ri,lV,jM]at this;exact Nat.lt_of_sub_pos (sQ (qm _) this)
   rw [dT m,ze,qn,Prod.mk.injEq]at A;clear hp;obtain⟨⟨rfl,cQ⟩,rfl⟩:=A;have o:z[j]?=some l:=by exact J cQ (cH m)
   have G:z.drop j=l::z.drop (j+1):=by exact J cQ (dT m)
   rw [G]at U H;obtain⟨F,k⟩:=O5 H;have Y:=qX z j;rw [o]at Y;have M:=X _ (cq o);have W:=λu=>j' (y:=u) o;have v:=P0 z a0.d j l _ G;have P:=λL hg=>MQ a0.b (cq o) (g:=L) hg;clear cQ H;obtain⟨s,r⟩:=l;have C:∀p1 p2 p3 u,fn aj (I w 64) (.b [.a 6 p1,.a 7 p2] p3) (nL (j,s,r)) (eV y (bV z) (bY z) (.e (bq (a' z))) (eb D) c x6 x7 Z) u=some (eV y (bV z) (bY z) (.e (bq (a' z))) (eb D) c (some (.b j)) (some (.a (cx r))) Z,u):=λp1 p2 p3 u=>Cx rfl;rw [C];refine(?_:cA (aI aj (I w 64) w fi (eV y (bV z) (bY z) (.e (bq (a' z))) (eb D) c (some (.b (j:Int))) (some (.a (cx r))) Z) []) _);have Q:eg r=true->r≠.g->cA (aI aj (I w 64) w fi (eV y (bV z) (bY z) (.e (bq (a' z))) (eb D) c (some (.b j)) (some (.a (cx r))) Z) []) (km (qY z y (fk (j+1) (z.drop (j+1)))) λq=>q.1=.a/\qY z y [] q.2.1 q.2.2):=λB O=>by
    have T:(cx r==[115,107,105,112])=false:=by clear C P v W M Y k F G o U;induction r<;>first|rfl|exact am B
    have E:(cx r==[99,111,100,101])=false:=by clear T;clear C P v W M Y k F G o U;induction r<;>first|rfl|exact am B
    have q1:∀u,bp u .Eq (.a (cx r)) (.a [115,107,105,112])=some false:=λu=>by refine lB.trans (J T ?_);rfl
    have q2:∀u,bp u .NotEq (.a (cx r)) (.a [99,111,100,101])=some true:=λu=>by refine(?_:some (!(cx r==[99,111,100,101]))=_);exact J E rfl
    have oP:oz (z.drop (j+1)) (dJ z (j+1)) none:=by refine J Y ?_;clear q2 q1 E;clear T;clear C P v W M Y k F G o;induction r<;>first|exact U|exact am B
    have mM:bE false (z.drop (j+1))=z.drop (j+1):=by
     have:(fR r||(!eg r&&c))=false:=by clear q2 q1 E;clear T;clear C P v W M Y k F G o U;induction r<;>first|rfl|exact am B
     rw [show(fR (s,r).2||(!eg (s,r).2&&c))=false from this]at k;exact k
    have R:qY z y (fk (j+1) (z.drop (j+1))) (eV y (bV z) (bY z) (.e (bq (a' z))) (eb none) false (some (.b j)) (some (.a (cx r))) Z) []:=⟨j+1,none,false,_,_,_,rfl,m,rfl,rfl,oP,mM⟩;clear C;generalize bV z=n at*;clear W;generalize bY z=vb at*;generalize V.e (bq (a' z))=x at*;clear E;clear T;generalize cx r=kr at*;have a6:eb none=.d [.a [],.a [],.a []]:=rfl;rw [a6]at R;generalize eb D=a7 at*;simp [-lB,fi,cz,fN,q1,q2];exact R
   clear C;induction r with|d L=>exact Q rfl λe=>am (aJ eg e).symm|e L=>exact Q rfl λe=>am (aJ eg e).symm|c L=>exact Q rfl λe=>am (aJ eg e).symm|g=>refine mN rfl ⟨j+1,D,c,_,_,_,rfl,m,rfl,rfl,?_,k⟩;exact J Y U|f b=>refine mN rfl ⟨j+1,D,c,_,_,_,rfl,m,rfl,rfl,?_,k⟩;exact J Y U|a i=>
have hd:c=false:=F rfl;have K:fS ((an.a i).b s)=i.a::i.h:=kM s i M;rw [K]at W;obtain⟨n1,n2,n3,n4,n5⟩:=U;have lm:=λu=>Im w 64 (by decide) i u;rw [n2]at lm;have fX:=λu=>zL w 64 (by decide) i u;rw [List.head?_drop]at n1;have hB:fi=ab fi 0::ab fi 1::ab fi 2::ab fi 3::ab fi 4::ab fi 5::ab fi 6::[]:=rfl;have d0:∀y a b x n,az aj (I w 64) w (ab fi 0) (eV y a b x n c (some (.b j)) (some (.a (cx (.a i)))) Z) []=some (.a,eV y a b x n c (some (.b j)) (some (.a (cx (.a i)))) Z,[]):=λy a b x n=>by exact eF rfl
have d1:∀y a b x n,az aj (I w 64) w (ab fi 1) (eV y a b x n c (some (.b j)) (some (.a (cx (.a i)))) Z) []=some (.a,eV y a b x n c (some (.b (j:Int))) (some (.a (cx (.a i)))) Z,[]):=λy a b x n=>by exact eF rfl
have d2:∀y a x n,az aj (I w 64) w (ab fi 2) (eV y a (bY z) x n c (some (.b (j:Int))) (some (.a (cx (.a i)))) Z) []=some (.a,eV y a (bY z) x n c (some (.b (j:Int))) (some (.a (cx (.a i)))) (some (bQ i)),[]):=λy a x n=>by exact aA ((N (W _)) rfl)
rw [hB];refine J cU ?_;rw [d0];refine J fg (J cU ?_);rw [d1];refine J fg (J cU ?_);rw [d2];refine J fg (J cU ?_);refine J (Nu hd lm n4) (J fg ?_);refine J cU ?_;have a1:(d' (.a i)=true\/jZ i=true)->∀u,I w 64 63 [bV z,bY z,.b (j:Int),.e (bq (a' z))] u=some (.h true,u):=λa2 u=>by
 obtain⟨t,ht⟩:∃t,dk (.a i)=some t:=by clear d2 d1 d0 fX lm n5 n4 n3 n2 n1 K Q P v W M Y k F G o;induction i<;>first|exact⟨_,rfl⟩|(exfalso;rcases a2 with h|h<;>exact am h)
 refine Iw w 64 (by decide) z (bl (au S (gY (Nat.succ 300) 700)) a5) S X o ht ?_ (P t ht) (by exact J G v.1) u;intro hm;have h2:=v.2;unfold hj at h2;rw [show dk (s,an.a i).2=some t from ht]at h2;exact absurd hm (lj h2)
refine J (Nv (g:=none) (k:=z) fX a1) (J fg ?_);refine J cU (J (Nw (λhs u=>Il w 64 (by decide) z (au S (by decide)) X o hs n1 n3 u)) ?_);refine J fg (J cU ?_);refine J (Nx (s:=s) fX) (J fg ?_);refine J tz ?_;refine⟨_,rfl,j+1,some (s,i),fR (.a i),_,_,_,rfl,m,rfl,rfl,?_,?_⟩;. exact J Y n5
. rw [hd]at k;rw [show(fR (s,an.a i).2||(!eg (s,an.a i).2&&false))=fR (.a i)from(by simp)]at k;exact k
theorem IG w n(h:64<n){Q}(g:fW Q z)(G:xS z)(m:1000<w)t:I w n 64 [ah (z.map λl=>l.2.b l.1)] t=some (.h true,t):=by
 have r:ak=1000000:=rfl;have c:=g.c;refine av (xn (q:=λl:A=>bA l.2=true) z g.a) λq f=>?_;have j:q.length=z.length:=by refine J (aN f) ?_;(exact J (bU _) rfl)
 generalize v:ah (z.map λl=>l.2.b l.1)=y;have Y:c_ 0 [y]=true:=by refine J (aN v) ?_;simp [c_]
 have u:gs 0 [y]=some (q.map λx=>V.a (x.1.2.b x.1.1)):=by refine J (aN v) (J (aN f) ?_);refine(?_:some (((q.map Subtype.val).map λl:A=>l.2.b l.1).map V.a)=_);refine J di (J di ?_);rfl
 have k:V.d ((q.filter λO=>true).map λx=>V.a (cx x.1.2))=bV z:=by refine J (mZ.mpr λO O=>rfl) (J (aN f) ?_);unfold bV;exact J di rfl
 have o:V.d ((q.filter λO=>true).map λx=>ah (fS (x.1.2.b x.1.1)))=bY z:=by refine J (mZ.mpr λO O=>rfl) (J (aN f) ?_);unfold bY;exact J di rfl
 have b:az aj (I w 64) w (ab fN 0) [some y,none,none,none,none,none,none,none,none] []=some (.a,[some y,some (bV z),none,none,none,none,none,none,none],[]):=by refine(?_:az aj (I w 64) w (.f (.a 1 _) (.d false _ _ _ _ _ _ _ _ _ _) _) _ _=_);rw [zn,nN (u:=q) (λx:{l:A//bA l.2=true}=>V.a (x.1.2.b x.1.1)) (λO=>true) (λx=>V.a (cx x.1.2)) (d:=[y]) (fb rfl) u (λa=>by simp) (λa O=>by exact nr ((H (A5 w 64 (by decide) a.1 a.2 [])) rfl)) (au (ac (de j) c) (by decide)),k];simp
 have e:az aj (I w 64) w (ab fN 1) [some y,some (bV z),none,none,none,none,none,none,none] []=some (.a,[some y,some (bV z),some (bY z),none,none,none,none,none,none],[]):=by refine(?_:az aj (I w 64) w (.f (.a 2 _) (.d false _ _ _ _ _ _ _ _ _ _) _) _ _=_);rw [zn,nN (u:=q) (λx:{l:A//bA l.2=true}=>V.a (x.1.2.b x.1.1)) (λO=>true) (λx=>ah (fS (x.1.2.b x.1.1))) (d:=[y]) (fb rfl) u (λa=>by simp) (λa O=>by have U:mD (.a (a.1.2.b a.1.1)) [44] [32]=some (.a (dQ 44 [32] (a.1.2.b a.1.1))):=rfl;simp [U];rfl) (au (ac (de j) c) (by decide)),o];simp
 have W:=Io w 64 (by decide) z (bl (au c (gY (Nat.succ 300) 700)) m) (au c (by decide)) g.a (by exact J g.b g.d) [];have D:az aj (I w 64) w (ab fN 2) [some y,some (bV z),some (bY z),none,none,none,none,none,none] []=some (.a,eV y (bV z) (bY z) (.e (bq (a' z))) (eb none) false none none none,[]):=by have C:eb none=.d [.a [],.a [],.a []]:=rfl;refine J C ?_;generalize V.e (bq (a' z))=P at*;clear e b k;generalize bV z=T at*;clear o;generalize bY z=R at*;exact aA ((H W) rfl)
 obtain⟨⟨K,B,F⟩,M,i,p,E,d,L,N,S,_,_,s,Z,_,_⟩:=Ny g G m y;dsimp only at i s Z;subst i s Z;refine ct (f:=B1) h rfl (by decide) rfl rfl Y (z:=[]) (v:=.h true) ?_ rfl;refine aS (s:=ab fN 0) (j:=fN.drop 1) b (aS (s:=ab fN 1) (j:=fN.drop 2) e ?_);refine aS (s:=ab fN 2) (j:=fN.drop 3) D (aS (s:=ab fN 3) (j:=fN.drop 4) M ?_);exact aK rfl
theorem Av{f}:∀l,(∀v∈l,f v v=some true)->h' f l l=some true:=by intro z;induction z with|nil=>intro O;exact rfl|cons v l y=>intro h;refine(?_:(f v v).bind _=_);refine J (h v (.head _)) (J (y λx q=>h x (.tail _ q)) ?_);rfl
theorem I' a:iS a a=some true:=by induction a<;>first|rfl|exact aJ some (ji _)
theorem tx n a:ep (n+1) (.f a) (.f a)=some true:=by exact I' a
theorem zj n{l}(h:∀v∈l,ep n v v=some true):ep (n+1) (.d l) (.d l)=some true:=by exact(if_pos rfl).trans (Av l h)
theorem zk n{l}(h:∀v∈l,ep n v v=some true):ep (n+1) (.g l) (.g l)=some true:=by exact(if_pos rfl).trans (Av l h)
theorem IU z l:bp z .NotEq (ah l) (ah l)=some false:=by refine(?_:(ep 6 (ah l) (ah l)).map _=_);refine J (zj 5 λv y=>by(refine D (cG.mp y) λt O q=>?_;(refine J q.symm ?_));exact tx 4 _) ?_;rfl
def nx(z:List V):Prop:=∀v∈z,∃l:List aD,v=.g (l.map .f)
theorem BS{z}(h:nx z)n:ep (n+3) (.d z) (.d z)=some true:=zj _ λv y=>by refine av (h v y) λl q=>?_;refine J q ?_;exact zk _ λx j=>by refine D (cG.mp j) λa O u=>?_;(refine J u.symm ?_);exact tx n a
theorem Kk(q:nx s.b)(h:cR u i r s=.a g j):nx j.b:=by
 have z:∀(l:List aD),nx (s.b++[.g (l.map .f)]):=λl v y=>by
  rcases cr.mp y with y|y;. exact q v y
  . exact⟨l,bF.mp y⟩
 rcases xm h with rfl|⟨rfl,_⟩|rfl;. exact q
 . clear h;induction i with|c o v m=>exact z [.b _,.b _,.b _]|_=>exact q
 . exact z [.a _,.b _,.b _]
theorem Kj z:∀n r s,nx s.b->nx (gO z n r s).1:=by intro y;induction y with|zero=>intro O O h;exact h|succ n q=>intro r s h;refine J oi ?_;induction bH r with|none=>exact h|some p=>obtain⟨i,j⟩:=p;dsimp only;induction u:cR z i j s with|b t=>exact h|a g w=>exact q g w (Kk h u)
theorem I7 x n:ep (n+3) (ic (some x)) (ic (some x))=some true:=by
 obtain⟨t,b⟩:=x;refine zk _ λv z=>?_;refine dF z ?_ λz=>?_;. exact tx _ _
 . refine J (bF.mp z) ?_;exact zj _ λv z=>by refine D (cG.mp z) λa O y=>?_;(refine J y.symm ?_);exact tx _ _
theorem QG(h:jT y z):eZ z=eZ y/\z.length<=y.length:=by induction h with|b=>exact⟨rfl,aH _⟩|a _ q=>exact⟨(Fa _).trans q.1,ac (vM _).1 q.2⟩
theorem KR{q}(h:ti q j)s:fW q (j.map λr=>(s,r)):=by
 have z:=h.b;refine⟨by exact J (bU _) (ac z (by decide)),?_,h.h,λl z=>?_,λl z=>?_⟩;. refine J (aN h.c) ?_;unfold bZ fB;refine J List.filterMap_map ?_;congr 1
 . refine D (cG.mp z) λr y u=>?_;(refine J u.symm ?_);exact h.d r y
 . refine D (cG.mp z) λr y g=>?_;(refine J g.symm ?_);exact h.f r y
theorem Q8{y}(g:fW y z)(q:y≠[]):cc 10 (cB z)=z.map λl=>l.2.b l.1:=by
 refine xk (by
intro e;have:z=[]:=by simpa using e
clear e;subst this;exact q g.b.symm) λt j=>?_;refine D (cG.mp j) λl u w=>?_;exact J w.symm ((r' l (g.a l u)).1)
theorem LV r:(!(cx r==[99,111,100,101]))=!dD r:=by induction r<;>rfl
theorem zI{w}{c}(g:fW c z){v}(f:dR m v=some (ah (z.map λl=>l.2.b l.1))){p t r b e i n s h Q G}y:(aT aj (I w 65) (.d false (.c 0 e) x p 0 [.c v i] t r [.i .NotEq (.g 54 [.c 0 n] s h) (.f (.d [99,111,100,101]) k Q) G] L b) m).1 y=some (ah ((eZ z).map λl=>l.2.b l.1),y):=by
 have d:ak=1000000:=rfl;have Z:=g.c;refine av (xn (q:=λl:A=>bA l.2=true) z g.a) λj u=>?_;have o:j.length=z.length:=by refine J (aN u) ?_;rw [bU]
 rw [nN (u:=j) (λx:{l:A//bA l.2=true}=>V.a (x.1.2.b x.1.1)) (λx=>!dD x.1.2) (λx=>V.a (x.1.2.b x.1.1)) (d:=[ah (z.map λl=>l.2.b l.1)]) (by exact fb ((N f) rfl)) (by refine J (aN u) (?_:some (((j.map Subtype.val).map λl:A=>l.2.b l.1).map V.a)=_);rw [di,di];rfl) (λa=>by
have:=A5 w 65 (by exact by decide) a.1 a.2 y;have q:bp y .NotEq (.a (cx a.1.2)) (.a [99,111,100,101])=some (!dD a.1.2):=by refine(?_:some (!(cx a.1.2==[99,111,100,101]))=_);exact J (LV _) rfl
generalize cx a.1.2=U at*;induction Y:dD a.1.2<;>(replace q:=Y▸q)<;>simp [this,q]) (λa O=>by exact nr rfl) (by exact au (ac (de o) Z) (by decide))];congr 1;unfold ah eZ;refine J (aN u) (J List.filter_map ?_);refine J di (J di ?_);rfl
noncomputable abbrev fc(a b c d e f g h i j k:Option V):ao:=[a,b,c,d,e,f,g,h,i,j,k]
theorem Jg{w}{q}{z:List Int}{y}(Q:z.length<=63)(p:dR q 0=some (.d (z.map .b))){x}{t r v b e i l g o d c}{k f}{s}:(aT aj (I w 65) (.d true (.n .Mod (.c 0 e) (.f (.c 2147483647) k i) l) x t 0 [.a (.c 0 g) [] [.f (.c 60) f o] d c] r v [] s b) q).1 y=some (.c y.length,y++[ir ((z.take 60).map λn=>n%2147483647)]):=by
 have m:ak=1000000:=rfl;have h:cw 2147483647=true:=by decide
 have Z:∀n:Int,n.fmod 2147483647=n%2147483647:=λn=>jL _ (by decide);have j:ce (z.map V.b) none (some 60)=(z.take 60).map V.b:=by refine J (show 60=(60:Nat)from rfl) (J (pW _ _) ?_);exact J List.map_take rfl
 rw [zl];have u:dC aj (I w 65) [.a (.c 0 g) [] [.f (.c 60) f o] d c] q y=some ([.d ((z.take 60).map V.b)],y):=by simp only [zm,BN,J5,J7,BM,p,Option.map_some,Option.bind_some,iy.e];rw [s' (q:=z.map .b) (l:=none) (h:=some 60) rfl rfl rfl];exact J j rfl
 rw [u];refine(?_:(fL _ _ ((z.take 60).map V.b) [] y).bind _=_);rw [FO V.b (λO=>true) (λn=>V.b (n%2147483647)) (u:=y) (λa=>by simp) (λa O=>nr (by simp [zw,h,Z])) (z.take 60) [] (by rw [sM];simp;exact au (sB 60 (List.length z)) (by decide))];rw [mZ.mpr λO O=>rfl,mY];unfold ir;rw [di];rfl
theorem MM{w}{z:List Int}(d:z.length<=63):∃c q,bf c 1000 q/\az aj (I w 65) w (ab cQ 0) (fc (some (.d (z.map .b))) none none none none none none none none none none) []=some (.a,fc (some (.d (z.map .b))) (some (.c c)) none none none none none none none none none,ap q []):=by
 have o:=λf=>@Jg w (fc (some (.d (z.map .b))) none none none none none none none none none none) z f d rfl;generalize y:(z.take 60).map (λn=>n%2147483647)=j at o;have u:j.length<=60:=by refine J (aN y) ?_;(refine J (bU _) (J sM ?_));exact sB 60 (List.length z)
 have m:∀x∈j,0<=x/\x<2147483648:=λx g=>by rw [<-y]at g;refine D (cG.mp g) λn O p=>?_;exact J p.symm ⟨(ku _ (by decide)),lW (m' _ (by decide)) (by decide)⟩
 clear y;induction j using List.casesOn with|nil=>refine(ax 2 ⟨false,[3],0⟩ ⟨⟨rfl,by simp,λx g=>by exact J (bF.mp g) (by decide),by simp,by simp,by simp⟩,?_⟩);have t:ev [ir []] (.c 0)=some false:=rfl;exact aA ((H (o _)) rfl)|cons x j=>refine(ax 1 ⟨true,x::j,0⟩ ⟨⟨rfl,by simp,m,by simp,by dsimp only;exact bl u (by decide),by simp⟩,?_⟩);have t:ev [ir (x::j)] (.c 0)=some true:=rfl;exact aA ((H (o _)) rfl)
theorem QZ{m}(h:ti m j)(c:s<=2):(dy s u j).length<=200/\dy s u j≠[]/\(∀l∈dy s u j,l.g)/\(∀l∈dy s u j,l.b.length<=200)/\(u=true->(dy s u j).any bc.f=true):=by
 have y:=h.b;have w:∀l∈j.map (λr=>bc.c (s,r)),l.g/\l.b.length<=200:=λl z=>by
  refine D (cG.mp z) λr p t=>?_;subst t;have f:=h.d r p
  refine⟨⟨f,?_,λk q=>am (aJ bc.f q)⟩,(r' (s,r) f).2⟩;clear f z;induction r with|d g=>
    have:g∈m:=by exact J (aN h.c) (List.mem_filterMap.mpr ⟨_,p,rfl⟩)
    refine(?_:(!(g==kP))=true);have:g ≠ kP := λ e => h.e (e ▸ this);simp [this]|_=>rfl
 have v:(bc.d s).g/\(bc.d s).b.length<=200:=by
  refine⟨⟨rfl,?_,λk q=>by cases q;exact c⟩,?_⟩;. clear w;refine nV (show s<3 by exact au c (by decide)) ?_ ?_ ?_<;>rfl
  . clear w;refine nV (show s<3 by exact au c (by decide)) ?_ ?_ ?_<;>decide
 have o:∀l∈dy s u j,l.g/\l.b.length<=200:=λl z=>by
  unfold dy at z;split at z
  . refine(cr.mp z).elim (λz=>?_) λz=>?_;. exact w l (sO z)
    . refine dF z ?_ λz=>?_;. exact v
      . exact w l (List.mem_of_mem_drop z)
  . exact w l z
 refine⟨?_,?_,λl z=>(o l z).1,λl z=>(o l z).2,λb=>?_⟩
 . unfold dy;split;. simp;exact J (wy _ _) (ac (nf y) (by decide))
   . simp;exact ac y (by decide)
 . unfold dy;split;. simp
   . intro e;have:j=[]:=by simpa using e
     clear e o w y;subst this;have:=h.a;replace this:=h.c.symm▸this;cases this
 . clear o;subst b;unfold dy;refine J (if_pos rfl) (J List.any_append ?_);refine J List.any_cons ?_;simp [bc.f]
theorem ML:∀L:List Int,L.length<=63->∃a6,I a6 66 rB [.d (L.map λi=>.b i)] []=some (.h true,[]):=by
 intro L S;have a5:ak=1000000:=rfl;refine⟨5000,?_⟩;refine bg (MM (w:=5000) S) λc q hW S0=>?_;refine ja (KO (w:=5000) (n:=65) (m:=0) (j:=[]) (by decide) (bf.a (k:=0+138) hW (by decide)) rfl) λs p ow k E z3=>?_;refine kS z3 λhs Q a7 En=>?_;refine hQ (QZ (s:=s) (u:=k) Q hs) λX t2 t3 t4 t5=>?_;have fF:c_ 0 [.d (L.map V.b)]=true:=cy (rc 0 L) rfl;generalize a8:V.d (L.map V.b)=u at*;generalize C:(dy s k p).map bc.b=f at*;have oV:f.length<=200:=by rw [<-C,bU];exact X
 have U:(f.map λx:B=>x.length).sum+f.length*1<ak:=by
  have:=wP (f:=λt:B=>t.length) (k:=200) (l:=f) λt ht=>by refine D (cG.mp (C.symm▸ht)) λl hl z4=>?_;subst z4;exact t4 l hl
  have:f.length*200<=200*200:=yf _ oV;lia
 have S1:az aj (I 5000 65) 5000 (ab cQ 1) (fc (some u) (some (.c c)) none none none none none none none none none) (ap q [])=some (.a,fc (some u) (some (.c c)) (some (ah f)) (some (.h k)) none none none none none none none,ap E []):=by exact aA ((H En) rfl)
 have qT:∀y,cN y .m (.a [10]) [ah f]=some (.a (hf (dy s k p)),y):=λy=>by rw [(vo (y:=y) (z:=[10]) (v:=ah f) (l:=f) rfl U)];unfold hf;refine J C ?_;rfl
 have G:∀y,ek y .m (.a [10])=true:=λy=>rfl;have S2:az aj (I 5000 65) 5000 (ab cQ 2) (fc (some u) (some (.c c)) (some (ah f)) (some (.h k)) none none none none none none none) (ap E [])=some (.a,fc (some u) (some (.c c)) (some (ah f)) (some (.h k)) (some (.a (hf (dy s k p)))) none none none none none none,ap E []):=by exact aA ((H (qT _)) rfl)
 have m:∀W,bu (aI aj (I 5000 65) 5000 cQ (fc (some u) none none none none none none none none none none) []) (.h true) W->I 5000 66 65 [u] []=some (.h true,[]):=λW e=>ct (f:=tF) (by decide) rfl (by decide) rfl rfl fF (z:=W) (v:=.h true) e rfl;generalize ap E []=y at*;suffices F:bu (aI aj (I 5000 65) 5000 (cQ.drop 3) (fc (some u) (some (.c c)) (some (ah f)) (some (.h k)) (some (.a (hf (dy s k p)))) none none none none none none) y) (.h true) y by refine m y ?_;refine aS (s:=ab cQ 0) (j:=cQ.drop 1) S0 ?_;refine aS (s:=ab cQ 1) (j:=cQ.drop 2) S1 ?_;exact aS (s:=ab cQ 2) (j:=cQ.drop 3) S2 F
 induction k with|true=>have M:=H4 5000 65 (by decide) t2 (au X (by decide)) t3 (t5 rfl) y;clear S2 qT;generalize hf (dy s true p)=Z at*;exact aK ((H M) (by simp [cQ,M]))|false=>
have Ac:dy s false p=(p.map λr=>(s,r)).map bc.c:=by rw [di];rfl
have g:=KR Q s;rw [Ac,FJ];have P:f=(p.map λr=>(s,r)).map λl:A=>l.2.b l.1:=by refine(aN C).trans ?_;refine J Ac ?_;rw [di];rfl
have FP:(p.map λr=>(s,r)).length<=120:=by rw [bU];exact Q.b
rw [P];clear S1 S2 qT G X t2 t3 t4 t5 C U oV En Ac m S0;clear P;generalize(p.map λr=>(s,r))=j at*;have ho:ow≠[]:=λe=>by have:=Q.a;replace this:=e▸this;cases this
have FU:∀j:List A,j.length<=120->jb j+2<5000:=λj h=>by have h1:dE j<=j.length:=yc _ _;unfold jb;split<;>lia
refine gn (A' 5000 65 (by decide) g ho Q.e ⟨by decide,FU j FP⟩ y) λa0 u1 u2 M=>?_;refine ae (QG u1) λv1 v2=>?_;have T:=wW u1 g;refine gn (A' 5000 65 (by decide) T ho Q.e ⟨by decide,FU a0 (ac v2 FP)⟩ y) λd u3 u4 yE=>?_;obtain rfl:=QF u2 u3;have yG:=λy=>IG 5000 65 (by decide) T (Jz u2) (by decide) y;have Eo:=λy=>A_ 5000 65 (by decide) g Q.a y;have Ep:=λy=>A_ 5000 65 (by decide) T Q.a y;have mT:=Q8 T ho;have w:=Pd u1 g 100 100 (aH _) (by decide);have oQ:=Kj j 100 (c' j hn) gw (λO h=>absurd h fY);have a9:=@zI (w:=5000);have a1:(eZ d).map (λl:A=>l.2.b l.1)=(eZ j).map (λl:A=>l.2.b l.1):=by refine J v1 ?_;rfl
change nx (mE j 100).1 at oQ;generalize mE j 100=r at*;generalize mE d 100=r' at*;have S3:az aj (I 5000 65) 5000 (ab cQ 3) (fc (some u) (some (.c c)) (some (ah (j.map λl=>l.2.b l.1))) (some (.h false)) (some (.a (cB j))) none none none none none none) y=some (.a,fc (some u) (some (.c c)) (some (ah (j.map λl=>l.2.b l.1))) (some (.h false)) (some (.a (cB j))) (some (.a (cB d))) none none none none none,y):=by exact aA ((H M) rfl)
have S4:az aj (I 5000 65) 5000 (ab cQ 4) (fc (some u) (some (.c c)) (some (ah (j.map λl=>l.2.b l.1))) (some (.h false)) (some (.a (cB j))) (some (.a (cB d))) none none none none none) y=some (.a,fc (some u) (some (.c c)) (some (ah (j.map λl=>l.2.b l.1))) (some (.h false)) (some (.a (cB j))) (some (.a (cB d))) none none none none none,y):=by exact eF rfl
have S5:az aj (I 5000 65) 5000 (ab cQ 5) (fc (some u) (some (.c c)) (some (ah (j.map λl=>l.2.b l.1))) (some (.h false)) (some (.a (cB j))) (some (.a (cB d))) none none none none none) y=some (.a,fc (some u) (some (.c c)) (some (ah (j.map λl=>l.2.b l.1))) (some (.h false)) (some (.a (cB j))) (some (.a (cB d))) (some (ah (d.map λl=>l.2.b l.1))) none none none none,y):=by
 have:∀y,cN y .l (.a (cB d)) [.a [10]]=some (ah (d.map λl=>l.2.b l.1),y):=λy=>by refine(?_:some (V.d ((cc 10 (cB d)).map .a),y)=_);rw [mT];rfl
 have G:∀y,ek y .l (.a (cB d))=true:=λy=>rfl;exact aA (by simp [-NV,cQ,this,G])
have FO:∀y(l:List B),f' y .a [ah l]=some (.b l.length):=λy l=>by refine(?_:some (V.b ((l.map V.a).length:Nat))=_);refine J (bU _) ?_;rfl
have Y:¬(j.length<(d.length:Int)):=iH (g_.mpr v2);generalize hA:ah (j.map λl=>l.2.b l.1)=b at*;generalize hB:ah (d.map λl=>l.2.b l.1)=n at*;have zT:∀y,f' y .a [b]=some (.b (j.length:Int)):=λy=>by rw [<-hA,FO,bU]
have zU:∀y,f' y .a [n]=some (.b (d.length:Int)):=λy=>by rw [<-hB,FO,bU]
clear M;generalize cB j=Z at*;clear mT;generalize cB d=a at*;have q0:∀y,bp y .NotEq (.a a) (.a a)=some false:=λy=>by simp
have S6:az aj (I 5000 65) 5000 (ab cQ 6) (fc (some u) (some (.c c)) (some b) (some (.h false)) (some (.a Z)) (some (.a a)) (some n) none none none none) y=some (.a,fc (some u) (some (.c c)) (some b) (some (.h false)) (some (.a Z)) (some (.a a)) (some n) none none none none,y):=by exact aA ((H yE) (as (by simp [-jV,cQ,yE,q0,zT,zU,Y,yG]) ((N (zU _)) ((N (zT _)) (as (by simp [-jV,cQ,yE,q0,zT,zU,Y,yG]) ((H (yG _)) rfl))))))
have S7:az aj (I 5000 65) 5000 (ab cQ 7) (fc (some u) (some (.c c)) (some b) (some (.h false)) (some (.a Z)) (some (.a a)) (some n) none none none none) y=some (.a,fc (some u) (some (.c c)) (some b) (some (.h false)) (some (.a Z)) (some (.a a)) (some n) none none none none,y):=by refine Kd.trans ?_;refine J J8 ?_;rw [zI T (v:=6) (by refine(?_:some n=_);rw [hB])];refine(?_:(((aT _ _ _ _).1 y).bind _).bind _=_);rw [zI g (v:=2) (by refine(?_:some b=_);rw [hA])];refine J a1 ?_;refine(?_:((bp y .NotEq _ _).map _).bind _=_);rw [IU];rfl
have S8:az aj (I 5000 65) 5000 (ab cQ 8) (fc (some u) (some (.c c)) (some b) (some (.h false)) (some (.a Z)) (some (.a a)) (some n) none none none none) y=some (.a,fc (some u) (some (.c c)) (some b) (some (.h false)) (some (.a Z)) (some (.a a)) (some n) (some (.d r.1)) (some (ic r.2)) none none,y):=by exact aA ((H (Eo _)) rfl)
have S9:az aj (I 5000 65) 5000 (ab cQ 9) (fc (some u) (some (.c c)) (some b) (some (.h false)) (some (.a Z)) (some (.a a)) (some n) (some (.d r.1)) (some (ic r.2)) none none) y=some (.a,fc (some u) (some (.c c)) (some b) (some (.h false)) (some (.a Z)) (some (.a a)) (some n) (some (.d r.1)) (some (ic r.2)) (some (.d r'.1)) (some (ic r'.2)),y):=by exact aA ((H (Ep _)) rfl)
refine aS (s:=ab cQ 3) (j:=cQ.drop 4) S3 ?_;refine aS (s:=ab cQ 4) (j:=cQ.drop 5) S4 ?_;refine aS (s:=ab cQ 5) (j:=cQ.drop 6) S5 ?_;refine aS (s:=ab cQ 6) (j:=cQ.drop 7) S6 ?_;refine aS (s:=ab cQ 7) (j:=cQ.drop 8) S7 ?_;refine aS (s:=ab cQ 8) (j:=cQ.drop 9) S8 ?_;refine aS (s:=ab cQ 9) (j:=cQ.drop 10) S9 ?_;clear S8 Eo;clear S9;obtain⟨o,rx⟩:=r
clear Ep;obtain⟨R,Wo⟩:=r';induction rx with|none=>
have K:o<+:R:=w;clear w;refine av K λz z5=>?_;(refine J z5.symm ?_);have a2:ce (o++z) none (some ((o.length:Nat):Int))=o:=by rw [pW,List.take_left]
have F:∀y,bp y .Eq (.d o) (.d o)=some true:=λy=>BS oQ 3;have Y:∀y,f' y .a [.d o]=some (.b (o.length:Int)):=λy=>rfl;have a3:∀y,iV y (.d (o++z)) [] [.b (o.length:Int)]=some (.d o):=λy=>by refine(s' (q:=o++z) (l:=none) (h:=some ((o.length:Nat):Int)) rfl rfl rfl).trans ?_;refine J a2 ?_;rfl
have a4:ic none=.j:=rfl;simp [-jV,-s',cQ,a4,Y,a3,F]|some x=>
have he:(R,Wo)=(o,some x):=w;clear w;cases he;have F:∀y,bp y .Eq (.g [.d o,ic (some x)]) (.g [.d o,ic (some x)])=some true:=λy=>by
 refine(?_:ep 6 (.g [.d o,ic (some x)]) (.g [.d o,ic (some x)])=some true);refine zk 5 λv hv=>?_;refine dF hv ?_ λhv=>?_;. exact BS oQ 2
 . rw [bF.mp hv];exact I7 x 2
have a4:∀y,bp y .Is (ic (some x)) .j=some false:=λy=>rfl;generalize ic (some x)=ve at*;exact aK ((eJ (a4 _)) ((eJ (F _)) rfl))
end Internal.Mp
end
theorem PySem.Challenge.cw_nm0024_01_holds : PySem.Challenge.rw_nm0024_01.Holds :=
 Internal.Mp.Lr (by unfold Internal.Mp.Ap;rw [<-Internal.Mp.xG];exact Internal.Mp.ML)
